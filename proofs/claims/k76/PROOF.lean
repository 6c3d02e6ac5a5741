import PyProof.Rows.All
import Wide.All
import OpenK.AllK
import Wide.FinOn
import KE.KStateDown
import Lean
import HandS.Base
import HandS.Call
import HandS.Ends
import HandS.More
import HandS.Words
import HandS.WordsExc
import HandS.Defaults
import HandS.Head0
import HandS.Head1
import HandS.Head2
import HandS.HeadEnd
import HandS.HeadHook1
import HandS.HeadHook2
import PyProof.EqLayable
import PyProof.EqAt
import PyProof.EqKinds
import PyProof.TupleCall
import HandS.List
import HandS.Comp
import HandS.Exc
import HandS.ExcOwn
import HandS.TryOnly
import HandS.Walk
import HandS.Wide
import HandS.Deep
import HandS.Style
import HandS.Dict
import HandS.TupMul
import HandS.TupAny
import HandS.SortKw
import HandS.IsInst
import KE.KTupSum
import KE.DataMinMax
import HandS.SortRule
import PyProof.ZipIter
import HandS.Zip0
import HandS.Star
import HandS.Zip
import HandS.Iter
import HandS.DictTup
import KE.KDictDisplayH
import PySem.Challenge.RW_moreeven_k76_whole_counts_that_can_be_ma
set_option Elab.async false
set_option linter.all false
set_option maxRecDepth 100000
set_option maxHeartbeats 4000000
/-! Ev: a small evaluator for the programs' own subset of Python: data by value, slots, one shared pair (the cup). -/
namespace Ev
open PySem

/-- data: what a program hands about; fn, cls: a def, a class of the top; cup: the one shared pair -/
inductive D where
  | non | bl (b : Bool) | int (i : Int) | str (s : Str)
  | tup (xs : List D) | lst (xs : List D)
  | fn (i : Nat) | cls (i : Nat) | cup
  /-- the script: a list that is only copied -/
  | ro (xs : List Int)
  /-- a dict that nobody changes any more (l: it is walked): its keys, tuples of ints; its values -/
  | dct (l : Bool) (ks : List (List Int)) (vs : List D)
  deriving Inhabited
/-- what a slot holds: a value that nobody changes any more; a list of the def's own; a list of such lists; a dict of the def's own -/
inductive T where
  | leaf (d : D) | own (xs : List D) | own2 (xss : List (List D)) | dct (ks : List (List Int)) (vs : List D)
/-- what an expression gives: a value; a new list; a new list of new lists -/
inductive B where
  | val (d : D) | new (xs : List D) | new2 (xss : List (List D)) | newd (ks : List (List Int)) (vs : List D)
@[reducible] def T.d : T → D
  | .leaf d => d
  | .own xs => .lst xs
  | .own2 xss => .lst (xss.map .lst)
  | .dct ks vs => .dct false ks vs
@[reducible] def B.d : B → D
  | .val d => d
  | .new xs => .lst xs
  | .new2 xss => .lst (xss.map .lst)
  | .newd ks vs => .dct false ks vs
@[reducible] def B.t : B → T
  | .val d => .leaf d
  | .new xs => .own xs
  | .new2 xss => .own2 xss
  | .newd ks vs => .dct ks vs
@[reducible] def T.b : T → B
  | .leaf d => .val d
  | .own xs => .new xs
  | .own2 xss => .new2 xss
  | .dct ks vs => .newd ks vs
abbrev Cup := Option (Int × Int)
structure St where
  env : List (Option T)
  cup : Cup
/-- a result -/
inductive R (α : Type) where
  | ok (a : α) (s : St) | exc (c : Nat) (s : St) | bad
def R.bind {α β : Type} (r : R α) (f : α → St → R β) : R β := match r with
  | .ok a s => f a s
  | .exc c s => .exc c s
  | .bad => .bad
/-- of a call -/
inductive CR where
  | ok (b : B) (c : Cup) | exc (c : Nat) (k : Cup) | bad
abbrev Fn := Nat → List D → Cup → CR

/-- the most items of a list -/
def big : Nat := 16777216

/-! ### equality of data -/
mutual
def eqD : D → D → Bool
  | .non, .non => true
  | .bl a, .bl b => a == b
  | .bl a, .int j => (if a then 1 else 0) == j
  | .int i, .bl b => i == (if b then 1 else 0)
  | .int i, .int j => i == j
  | .str x, .str y => x == y
  | .lst xs, .lst ys => eqDs xs ys
  | .tup xs, .tup ys => eqDs xs ys
  | _, _ => false
def eqDs : List D → List D → Bool
  | [], [] => true
  | x :: xs, y :: ys => eqD x y && eqDs xs ys
  | _, _ => false
end
/-! data that == takes, no deeper than n -/
mutual
def okD : Nat → D → Bool
  | _, .non => true
  | _, .bl _ => true
  | _, .int _ => true
  | _, .str x => PyData.strOk x
  | n, .tup xs => (match n with
    | 0 => false
    | m + 1 => okDs m xs)
  | n, .lst xs => (match n with
    | 0 => false
    | m + 1 => okDs m xs)
  | _, .fn _ => false
  | _, .cls _ => false
  | _, .cup => false
  | _, .ro _ => false
  | _, .dct _ _ _ => false
def okDs : Nat → List D → Bool
  | _, [] => true
  | n, x :: xs => okD n x && okDs n xs
end
def eqOk (x y : D) : Bool := okD 64 x && okD 64 y

/-! ### operators -/
inductive Op where
  | add | sub | mul | fdiv | mod | pow | shl | shr | band | bor
  deriving DecidableEq
inductive Cp where
  | eq | ne | lt | le | gt | ge | is | isn | isin | notin
  deriving DecidableEq
inductive Ty where
  | int | bool | str | tuple | list
  deriving DecidableEq
inductive Bi where
  | abs | all | any | bool | int | len | list | max1 | max2 | min1 | min2 | sum | sorted | sortedR | tuple
  deriving DecidableEq

/-- a product that the model takes: one factor below 2 ^ 64, or both together below a million bits -/
def mulOk (i j : Int) : Bool := decide (i.natAbs < 2 ^ 64) || decide (j.natAbs < 2 ^ 64) || decide (i.natAbs.log2 + j.natAbs.log2 < 1000000)
/-- a divisor that the model takes -/
def divOk (j : Int) : Bool := decide (0 < j) && (decide (j < 1073741824) || decide (j.natAbs.log2 < 9000))
def rep (k : Nat) (xs : List D) : List D := (List.replicate k xs).flatten

def binop : Op → D → D → Option B
  | .add, .int i, .int j => some (.val (.int (i + j)))
  | .add, .str x, .str y => if x.length + y.length ≤ big then some (.val (.str (x ++ y))) else none
  | .add, .tup xs, .tup ys => if xs.length + ys.length ≤ big then some (.val (.tup (xs ++ ys))) else none
  | .add, .lst xs, .lst ys => if xs.length + ys.length ≤ big then some (.new (xs ++ ys)) else none
  | .sub, .int i, .int j => some (.val (.int (i - j)))
  | .mul, .int i, .int j => if mulOk i j then some (.val (.int (i * j))) else none
  | .mul, .lst xs, .int k => if xs.length * k.toNat ≤ big ∧ k < 2 ^ 63 ∧ -(2 ^ 63) ≤ k then some (.new (rep k.toNat xs)) else none
  | .mul, .tup xs, .int k => if xs.length ≤ 1000 ∧ -1000 ≤ k ∧ k ≤ 1000 then some (.val (.tup (rep k.toNat xs))) else none
  | .fdiv, .int i, .int j => if divOk j then some (.val (.int (i / j))) else none
  | .mod, .int i, .int j => if 0 < j then some (.val (.int (i % j))) else none
  | .pow, .int i, .int j => if 0 ≤ j ∧ j ≤ 1000000 ∧ i.natAbs < 2 ^ 64 then some (.val (.int (i ^ j.toNat))) else none
  | _, _, _ => none

def lexLt : List Int → List Int → Bool
  | [], [] => false
  | [], _ :: _ => true
  | _ :: _, [] => false
  | x :: xs, y :: ys => if x = y then lexLt xs ys else decide (x < y)
/-- the ints of a list of ints -/
def ints? : List D → Option (List Int)
  | [] => some []
  | .int i :: xs => (ints? xs).map (i :: ·)
  | _ :: _ => none
def bools? : List D → Option (List Bool)
  | [] => some []
  | .bl i :: xs => (bools? xs).map (i :: ·)
  | _ :: _ => none
def strs? : List D → Option (List Str)
  | [] => some []
  | .str i :: xs => (strs? xs).map (i :: ·)
  | _ :: _ => none
/-- the items of a list, of a tuple -/
def items? : D → Option (List D)
  | .tup xs => some xs
  | .lst xs => some xs
  | _ => none
def isinD (x : D) (xs : List D) : Bool := xs.any fun y => eqD y x
def cmpop : Cp → D → D → Option Bool
  | .eq, x, y => if eqOk x y then some (eqD x y) else none
  | .ne, x, y => if eqOk x y then some (!eqD x y) else none
  | .lt, .int i, .int j => some (decide (i < j))
  | .le, .int i, .int j => some (decide (i ≤ j))
  | .gt, .int i, .int j => some (decide (j < i))
  | .ge, .int i, .int j => some (decide (j ≤ i))
  | .lt, .tup xs, .tup ys => (match ints? xs, ints? ys with
    | some ns, some ms => some (lexLt ns ms)
    | _, _ => none)
  | .is, x, .non => some (match x with | .non => true | _ => false)
  | .isn, x, .non => some (match x with | .non => false | _ => true)
  | .is, .bl a, .bl b => some (a == b)
  | .isn, .bl a, .bl b => some (!(a == b))
  | .isin, x, y => (match items? y with
    | some xs => if eqOk x y then some (isinD x xs) else none
    | none => none)
  | .notin, x, y => (match items? y with
    | some xs => if eqOk x y then some (!isinD x xs) else none
    | none => none)
  | _, _, _ => none

/-- what a dict holds at a key; a dict with a key set -/
def dAt (k : List Int) (ks : List (List Int)) (vs : List D) : Option D := ((ks.zip vs).find? fun p => decide (p.1 = k)).map (·.2)
def dPut (k : List Int) (v : D) (ks : List (List Int)) (vs : List D) : List (List Int) × List D := if ks.contains k then (ks, List.zipWith (fun a x => if a = k then v else x) ks vs) else (ks ++ [k], vs ++ [v])
/-- a key -/
def key? : D → Option (List Int)
  | .tup ds => ints? ds
  | _ => none
/-- a place of a list by an index of any sign -/
def place (n : Nat) (i : Int) : Option Nat := if 0 ≤ i then (if i < n then some i.toNat else none) else if -(n : Int) ≤ i then some (i + n).toNat else none
def at? (xs : List D) (i : Int) : Option D := (place xs.length i).bind fun j => xs[j]?
/-- x[i]; of the cup its two ints -/
def ixop (c : Cup) : D → D → Option D
  | .tup xs, .int i => at? xs i
  | .lst xs, .int i => at? xs i
  | .cup, .int i => (match c with
    | some (x, y) => if i = 0 then some (.int x) else if i = 1 then some (.int y) else none
    | none => none)
  | _, _ => none
/-- the ends of a slice -/
def slIx (n d : Nat) : Option Int → Nat
  | none => d
  | some v => if v < 0 then (v + (n : Int)).toNat else min v.toNat n
def cut (xs : List D) (lo hi : Option Int) : List D := (xs.drop (slIx xs.length 0 lo)).take (slIx xs.length xs.length hi - slIx xs.length 0 lo)
def part? : D → Option (Option Int)
  | .non => some none
  | .int i => some (some i)
  | _ => none
def slop (x : D) (l h : Option Int) : Option B := match x with
  | .tup xs => some (.val (.tup (cut xs l h)))
  | .lst xs => some (.new (cut xs l h))
  | _ => none
def revop : D → Option B
  | .tup xs => some (.val (.tup xs.reverse))
  | .lst xs => some (.new xs.reverse)
  | _ => none
def truth : D → Option Bool
  | .non => some false
  | .bl b => some b
  | .int i => some (i != 0)
  | .tup xs => some (!xs.isEmpty)
  | .lst xs => some (!xs.isEmpty)
  | _ => none
def isTy : Ty → D → Option Bool
  | t, .non => some false
  | t, .bl _ => some (t == .bool || t == .int)
  | t, .int _ => some (t == .int)
  | t, .str _ => some (t == .str)
  | t, .tup _ => some (t == .tuple)
  | t, .lst _ => some (t == .list)
  | _, _ => none
def insertI (x : Int) : List Int → List Int
  | [] => [x]
  | y :: ys => if x ≤ y then x :: y :: ys else y :: insertI x ys
def sortI : List Int → List Int
  | [] => []
  | x :: xs => insertI x (sortI xs)
/-- pairs of ints, by the first, then by the second -/
def leP (x y : Int × Int) : Bool := decide (x.1 < y.1) || (decide (x.1 = y.1) && decide (x.2 ≤ y.2))
def insertP (x : Int × Int) : List (Int × Int) → List (Int × Int)
  | [] => [x]
  | y :: ys => if leP x y = true then x :: y :: ys else y :: insertP x ys
def sortP : List (Int × Int) → List (Int × Int)
  | [] => []
  | x :: xs => insertP x (sortP xs)
def pairs? : List D → Option (List (Int × Int))
  | [] => some []
  | .tup [.int i, .int j] :: xs => (pairs? xs).map ((i, j) :: ·)
  | _ :: _ => none
def pD (p : Int × Int) : D := .tup [.int p.1, .int p.2]
def sortD (x : D) : Option B := match (items? x).bind ints? with
  | some ns => some (.new ((sortI ns).map .int))
  | none => (match x with
    | .lst xs => (pairs? xs).map fun ps => .new ((sortP ps).map pD)
    | _ => none)
def maxI (x : Int) (xs : List Int) : Int := xs.foldl max x
def minI (x : Int) (xs : List Int) : Int := xs.foldl min x
def biop : Bi → List D → Option B
  | .abs, [.int i] => some (.val (.int (if i < 0 then -i else i)))
  | .all, [.lst xs] => (bools? xs).map fun bs => .val (.bl (bs.all id))
  | .any, [.lst xs] => (bools? xs).map fun bs => .val (.bl (bs.any id))
  | .int, [.int i] => some (.val (.int i))
  | .int, [.bl b] => some (.val (.int (if b then 1 else 0)))
  | .len, [.tup xs] => some (.val (.int xs.length))
  | .len, [.lst xs] => some (.val (.int xs.length))
  | .list, [.ro xs] => some (.new (xs.map .int))
  | .list, [x] => (items? x).map .new
  | .tuple, [x] => (items? x).map fun xs => .val (.tup xs)
  | .max2, [.int i, .int j] => some (.val (.int (if j > i then j else i)))
  | .min2, [.int i, .int j] => some (.val (.int (if j < i then j else i)))
  | .max1, [x] => (match (items? x).bind ints? with
    | some (y :: ys) => some (.val (.int (maxI y ys)))
    | _ => none)
  | .min1, [x] => (match (items? x).bind ints? with
    | some (y :: ys) => some (.val (.int (minI y ys)))
    | _ => none)
  | .sum, [x] => ((items? x).bind ints?).map fun ns => .val (.int ns.sum)
  | .sorted, [x] => sortD x
  | .sortedR, [x] => ((items? x).bind ints?).map fun ns => .new ((sortI ns).reverse.map .int)
  | _, _ => none

/-! ### syntax -/
inductive E where
  | var (i : Nat)
  | con (d : D)
  | tup (es : List E) | lst (es : List E)
  | bin (o : Op) (a b : E)
  | neg (a : E) | not (a : E)
  | and (a b : E) | or (a b : E)
  | cmp (o : Cp) (a b : E)
  | chain (o p : Cp) (a b c : E)
  | ife (c a b : E)
  | call (f : Nat) (es : List E)
  | bi (f : Bi) (es : List E)
  | isi (t : Ty) (a : E)
  | ix (a i : E)
  | sl (a lo hi : E)
  | rev (a : E)
  | comp (vs : List Nat) (g it c e : E)
  | comp2 (vs vs1 : List Nat) (g it c g1 it1 c1 e : E)
  -- dicts: {}, {k: v}, a.get(k, d), a[k], k in a, k not in a
  | dnew | dnew1 (k v : E) | dget (a k d : E) | dix (a k : E) | din (k a : E) | dnin (k a : E)
  -- what only a for walks
  | dkeys (i : Nat) | ditems (i : Nat)
  | rng (a : E) | rng2 (a b : E) | zip (es : List E) | zipS (a : E) | enum (a : E)

inductive S where
  | asg (g e : E)
  | par (is : List Nat) (es : List E)
  | ex (e : E)
  | append (i : Nat) (e : E)
  | ret (e : E)
  | ifs (c : E) (a b : List S)
  | for_ (g it : E) (body : List S)
  | while_ (c : E) (body : List S)
  | raise (c : Nat)
  | try_ (body : List S) (c : Nat) (suite : List S)
  | pass | brk | cnt
  | cupS (i : Nat) (e : E)
  -- a slot's dict: x[k] = v; (of no statement) it is walked from here on; it goes over to another slot
  | dput (i : Nat) (k e : E) | lock (i : Nat) | move (i j : Nat)

/-! ### expressions -/
/-- what an expression means: its value; as a test; looked at; walked (in a for statement: frozen); as a target -/
structure Sm where
  b : St → R B
  t : St → R Bool
  p : St → R D
  i : Bool → St → R (List D)
  g : B → St → R Unit
def lift {α : Type} (o : Option α) (s : St) : R α := match o with
  | some a => .ok a s
  | none => .bad
def getS (s : St) (i : Nat) : Option T := (s.env[i]?).bind id
def setS (s : St) (i : Nat) (t : T) : St := { s with env := s.env.set i (some t) }
/-- a value in the place of a list of one's own -/
def Sm.of (b : St → R B) : Sm where
  b := b
  t := fun s => (b s).bind fun v s => lift (truth v.d) s
  p := fun s => (b s).bind fun v s => .ok v.d s
  i := fun _ s => (b s).bind fun v s => lift (items? v.d) s
  g := fun _ _ => .bad
def sVar (i : Nat) : Sm where
  b := fun s => match getS s i with
    | some (.leaf d) => .ok (.val d) s
    | some t => .ok (.val t.d) (setS s i (.leaf t.d))
    | none => .bad
  p := fun s => match getS s i with
    | some (.own2 xss) => .ok (.lst (xss.map .lst)) (setS s i (.own (xss.map .lst)))
    | some t => .ok t.d s
    | none => .bad
  t := fun s => match getS s i with
    | some t => lift (truth t.d) s
    | none => .bad
  i := fun fz s => match getS s i with
    | some (.leaf d) => lift (items? d) s
    | some (.own xs) => .ok xs (if fz then setS s i (.leaf (.lst xs)) else s)
    | some (.own2 xss) => .ok (xss.map .lst) (setS s i (if fz then .leaf (.lst (xss.map .lst)) else .own (xss.map .lst)))
    | some (.dct _ _) => .bad
    | none => .bad
  g := fun v s => if i < s.env.length then .ok () (setS s i v.t) else .bad
def sCon (d : D) : Sm := .of fun s => .ok (.val d) s
/-- several values, each in its own right -/
def sArgs : List Sm → St → R (List D)
  | [], s => .ok [] s
  | m :: ms, s => (m.b s).bind fun v s => (sArgs ms s).bind fun vs s => .ok (v.d :: vs) s
/-- several values, looked at -/
def sLook : List Sm → St → R (List D)
  | [], s => .ok [] s
  | m :: ms, s => (m.p s).bind fun v s => (sLook ms s).bind fun vs s => .ok (v :: vs) s
def sGs : List Sm → List D → St → R Unit
  | [], [], s => .ok () s
  | m :: ms, d :: ds, s => (m.g (.val d) s).bind fun _ s => sGs ms ds s
  | _, _, _ => .bad
def sTup (ms : List Sm) : Sm := { Sm.of (fun s => (sArgs ms s).bind fun vs s => .ok (.val (.tup vs)) s) with
  g := fun v s => match items? v.d with
    | some xs => if xs.length = ms.length then sGs ms xs s else .bad
    | none => .bad }
def sLst (ms : List Sm) : Sm := .of fun s => (sArgs ms s).bind fun vs s => .ok (.new vs) s
def sBin (o : Op) (a c : Sm) : Sm := .of fun s => (a.p s).bind fun x s => (c.p s).bind fun y s => lift (binop o x y) s
def sNeg (a : Sm) : Sm := .of fun s => (a.p s).bind fun x s => match x with
  | .int i => .ok (.val (.int (-i))) s
  | _ => .bad
def sNot (a : Sm) : Sm := { Sm.of (fun s => (a.p s).bind fun x s => match x with
    | .bl k => .ok (.val (.bl (!k))) s
    | _ => .bad) with
  t := fun s => (a.t s).bind fun k s => .ok (!k) s }
def sAnd (a c : Sm) : Sm := { Sm.of (fun s => (a.p s).bind fun x s => match x with
    | .bl true => c.b s
    | .bl false => .ok (.val (.bl false)) s
    | _ => .bad) with
  t := fun s => (a.t s).bind fun k s => if k then c.t s else .ok false s }
def sOr (a c : Sm) : Sm := { Sm.of (fun s => (a.p s).bind fun x s => match x with
    | .bl false => c.b s
    | .bl true => .ok (.val (.bl true)) s
    | _ => .bad) with
  t := fun s => (a.t s).bind fun k s => if k then .ok true s else c.t s }
def sCmp (o : Cp) (a c : Sm) : Sm := .of fun s => (a.p s).bind fun x s => (c.p s).bind fun y s => (lift (cmpop o x y) s).bind fun k s => .ok (.val (.bl k)) s
def sChain (o q : Cp) (a c e : Sm) : Sm := .of fun s => (a.p s).bind fun x s => (c.p s).bind fun y s => (lift (cmpop o x y) s).bind fun k s =>
  if k then (e.p s).bind fun z s => (lift (cmpop q y z) s).bind fun k s => .ok (.val (.bl k)) s else .ok (.val (.bl false)) s
def sIfe (c a e : Sm) : Sm := { Sm.of (fun s => (c.t s).bind fun k s => if k then a.b s else e.b s) with
  t := fun s => (c.t s).bind fun k s => if k then a.t s else e.t s }
def sCall (F : Fn) (f : Nat) (ms : List Sm) : Sm := .of fun s => (sArgs ms s).bind fun vs s => match F f vs s.cup with
  | .ok b c => .ok b { s with cup := c }
  | .exc k c => .exc k { s with cup := c }
  | .bad => .bad
def sBi (f : Bi) (ms : List Sm) : Sm := .of fun s => (sLook ms s).bind fun vs s => lift (biop f vs) s
def sIsi (t : Ty) (a : Sm) : Sm := .of fun s => (a.p s).bind fun x s => (lift (isTy t x) s).bind fun k s => .ok (.val (.bl k)) s
/-- a slice's end that is written -/
def sPart (e : E) (m : Sm) : Sm := match e with
  | .con .non => m
  | _ => { m with p := fun s => (m.p s).bind fun d s => match d with
    | .int i => .ok (.int i) s
    | _ => .bad }
def sSl (a l h : Sm) : Sm := .of fun s => (a.p s).bind fun x s => (l.p s).bind fun y s => (lift (part? y) s).bind fun y s => (h.p s).bind fun z s => (lift (part? z) s).bind fun z s => lift (slop x y z) s
def sRev (a : Sm) : Sm := .of fun s => (a.p s).bind fun x s => lift (revop x) s
/-- x[i] = v for a slot; x[j][i] = v -/
def put1 (k : Nat) (i : Sm) (v : B) (s : St) : R Unit := match getS s k with
  | none => .bad
  | some _ => (i.p s).bind fun x s => match getS s k, x with
  | some (.own xs), .int i => (match place xs.length i with
    | some j => .ok () (setS s k (.own (xs.set j v.d)))
    | none => .bad)
  | some (.leaf .cup), .int i => (match s.cup, v.d with
    | some (x, y), .int n => if i = 0 then .ok () { s with cup := some (n, y) } else if i = 1 then .ok () { s with cup := some (x, n) } else .bad
    | _, _ => .bad)
  | _, _ => .bad
def put2 (k : Nat) (j i : Sm) (v : B) (s : St) : R Unit := match getS s k with
  | some (.own2 _) => (j.p s).bind fun y s => (match getS s k, y with
    | some (.own2 xss), .int j => (match place xss.length j with
      | some a => (if a < xss.length then (i.p s).bind fun x s => (match getS s k, x with
        | some (.own2 xss), .int i => (match xss[a]? with
          | some xs => (match place xs.length i with
            | some c => .ok () (setS s k (.own2 (xss.set a (xs.set c v.d))))
            | none => .bad)
          | none => .bad)
        | _, _ => .bad) else .bad)
      | none => .bad)
    | _, _ => .bad)
  | _ => .bad
def sIx (a i : Sm) (g : B → St → R Unit) : Sm := { Sm.of (fun s => (a.p s).bind fun x s => (i.p s).bind fun y s => (lift (ixop s.cup x y) s).bind fun d s => .ok (.val d) s) with g := g }
/-- the turns of a comprehension -/
def wipe (env : List (Option T)) : List Nat → List (Option T)
  | [] => env
  | v :: vs => (wipe env vs).set v none
def back (old env : List (Option T)) : List Nat → List (Option T)
  | [] => env
  | v :: vs => (back old env vs).set v ((old[v]?).bind id)
def turns (vs : List Nat) (g : B → St → R Unit) (c : St → R Bool) (e : St → R B) : List D → List B → St → R (List B)
  | [], acc, s => .ok acc s
  | x :: xs, acc, s => (g (.val x) s).bind fun _ s => (c s).bind fun k s => match k with
    | true => (e s).bind fun v s => turns vs g c e xs (acc ++ [v]) { s with env := wipe s.env vs }
    | false => turns vs g c e xs acc { s with env := wipe s.env vs }
/-- new lists all -/
def news? : List B → Option (List (List D))
  | [] => some []
  | .new xs :: r => (news? r).map (xs :: ·)
  | _ :: _ => none
/-- values all -/
def vals? : List B → Option (List D)
  | [] => some []
  | .val d :: r => (vals? r).map (d :: ·)
  | _ :: _ => none
def gather (acc : List B) : Option B := match vals? acc with
  | some ds => some (.new ds)
  | none => (news? acc).map .new2
/-- no exception leaves -/
def calm {α : Type} (r : R α) : R α := match r with
  | .exc _ _ => .bad
  | r => r
/-- slots that hold no list of one's own -/
def leafs (s : St) : List Nat → Bool
  | [] => true
  | v :: vs => (match getS s v with
    | none => true
    | some (.leaf _) => true
    | _ => false) && leafs s vs
def sComp (vs : List Nat) (g it c e : Sm) : Sm := .of fun s => (it.i false s).bind fun xs s => if leafs s vs && decide (xs.length ≤ big) then
  (calm (turns vs g.g c.t e.b xs [] { s with env := wipe s.env vs })).bind fun acc s' => lift (gather acc) { s' with env := back s.env s'.env vs } else .bad
/-- the turns of a comprehension with two clauses -/
def turns2 (vs vs1 : List Nat) (g : B → St → R Unit) (c : St → R Bool) (i1 : St → R (List D)) (g1 : B → St → R Unit) (c1 : St → R Bool) (e : St → R B) : List D → List B → St → R (List B)
  | [], acc, s => .ok acc s
  | x :: xs, acc, s => (g (.val x) s).bind fun _ s => (c s).bind fun k s => match k with
    | true => (i1 s).bind fun ys s => (turns vs1 g1 c1 e ys acc { s with env := wipe s.env vs1 }).bind fun acc s => turns2 vs vs1 g c i1 g1 c1 e xs acc { s with env := wipe s.env vs }
    | false => turns2 vs vs1 g c i1 g1 c1 e xs acc { s with env := wipe s.env vs }
def sComp2 (vs vs1 : List Nat) (g it c g1 it1 c1 e : Sm) : Sm := .of fun s => (it.i false s).bind fun xs s => if leafs s vs && vs1.all (vs.contains ·) then
  (calm (turns2 vs vs1 g.g c.t (it1.i true) g1.g c1.t e.b xs [] { s with env := wipe s.env vs })).bind fun acc s' => if acc.length ≤ big then lift (gather acc) { s' with env := back s.env s'.env vs } else .bad else .bad
def sIter (i : Bool → St → R (List D)) : Sm where
  b := fun _ => .bad
  t := fun _ => .bad
  p := fun _ => .bad
  i := i
  g := fun _ _ => .bad
def upTo (lo : Int) (n : Nat) : List D := (List.range n).map fun (k : Nat) => .int (lo + (k : Int))
def small (i : Int) : Bool := decide (-(2 ^ 62) ≤ i) && decide (i < 2 ^ 62)
def sRng (a : Sm) : Sm := sIter fun _ s => (a.p s).bind fun x s => match x with
  | .int n => if small n ∧ n ≤ big then .ok (upTo 0 n.toNat) s else .bad
  | _ => .bad
def sRng2 (a c : Sm) : Sm := sIter fun _ s => (a.p s).bind fun x s => (c.p s).bind fun y s => match x, y with
  | .int l, .int h => if small l ∧ small h ∧ h - l ≤ big then .ok (upTo l (h - l).toNat) s else .bad
  | _, _ => .bad
/-- rows turned -/
def zipN : List (List D) → List D
  | [] => []
  | [xs] => xs.map fun x => .tup [x]
  | xs :: r => List.zipWith (fun x y => match y with
    | .tup ys => .tup (x :: ys)
    | y => y) xs (zipN r)
def allItems? : List D → Option (List (List D))
  | [] => some []
  | d :: ds => (items? d).bind fun xs => (allItems? ds).map (xs :: ·)
def sArgsOr (fz : Bool) (ms : List Sm) (s : St) : R (List D) := if fz then sArgs ms s else sLook ms s
def sZip (ms : List Sm) : Sm := sIter fun fz s => (sArgsOr fz ms s).bind fun vs s => (lift (allItems? vs) s).bind fun xss s => .ok (zipN xss) s
def sOne (a : Sm) (fz : Bool) (s : St) : R D := if fz then (a.b s).bind fun v s => .ok v.d s else a.p s
def sZipS (a : Sm) : Sm := sIter fun fz s => (sOne a fz s).bind fun v s => (lift ((items? v).bind allItems?) s).bind fun xss s => .ok (zipN xss) s
def enumD (n : Nat) : List D → List D
  | [] => []
  | x :: xs => .tup [.int (n : Int), x] :: enumD (n + 1) xs
/-- the items of a list alone -/
def lstItems? : D → Option (List D)
  | .lst xs => some xs
  | _ => none
def sEnum (a : Sm) : Sm := sIter fun fz s => (sOne a fz s).bind fun v s => (lift (lstItems? v) s).bind fun xs s => .ok (enumD 0 xs) s
def sDnew : Sm := .of fun s => .ok (.newd [] []) s
def sDnew1 (k v : Sm) : Sm := .of fun s => (k.p s).bind fun x s => (v.b s).bind fun y s => (lift (key? x) s).bind fun n s => .ok (.newd [n] [y.d]) s
/-- a dict and a key -/
def dAtO (x y : D) : Option (Option D) := match x, key? y with
  | .dct _ ks vs, some n => some (dAt n ks vs)
  | _, _ => none
def sDget (a k d : Sm) : Sm := .of fun s => (a.p s).bind fun x s => match x with
  | .dct _ ks vs => (k.p s).bind fun y s => (d.b s).bind fun z s => (lift (key? y) s).bind fun n s => .ok (.val ((dAt n ks vs).getD z.d)) s
  | _ => .bad
def sDix (a k : Sm) : Sm := .of fun s => (a.p s).bind fun x s => (k.p s).bind fun y s => (lift ((dAtO x y).bind id) s).bind fun d s => .ok (.val d) s
def sDin (k a : Sm) : Sm := .of fun s => (k.p s).bind fun y s => (a.p s).bind fun x s => (lift (dAtO x y) s).bind fun o s => .ok (.val (.bl o.isSome)) s
def sDnin (k a : Sm) : Sm := .of fun s => (k.p s).bind fun y s => (a.p s).bind fun x s => (lift (dAtO x y) s).bind fun o s => .ok (.val (.bl (!o.isSome))) s
def keyD (k : List Int) : D := .tup (k.map .int)
def sDkeys (i : Nat) : Sm := sIter fun _ s => match getS s i with
  | some (.leaf (.dct true ks _)) => .ok (ks.map keyD) s
  | _ => .bad
def sDitems (i : Nat) : Sm := sIter fun _ s => match getS s i with
  | some (.leaf (.dct true ks vs)) => .ok (List.zipWith (fun k v => .tup [keyD k, v]) ks vs) s
  | _ => .bad
mutual
def ev (F : Fn) : E → Sm
  | .var i => sVar i
  | .con d => sCon d
  | .tup es => sTup (evs F es)
  | .lst es => sLst (evs F es)
  | .bin o a b => sBin o (ev F a) (ev F b)
  | .neg a => sNeg (ev F a)
  | .not a => sNot (ev F a)
  | .and a b => sAnd (ev F a) (ev F b)
  | .or a b => sOr (ev F a) (ev F b)
  | .cmp o a b => sCmp o (ev F a) (ev F b)
  | .chain o p a b c => sChain o p (ev F a) (ev F b) (ev F c)
  | .ife c a b => sIfe (ev F c) (ev F a) (ev F b)
  | .call f es => sCall F f (evs F es)
  | .bi f es => sBi f (evs F es)
  | .isi t a => sIsi t (ev F a)
  | .ix a i => sIx (ev F a) (ev F i) (match a with
    | .var k => put1 k (ev F i)
    | .ix (.var k) j => put2 k (ev F j) (ev F i)
    | _ => fun _ _ => .bad)
  | .sl a l h => sSl (ev F a) (sPart l (ev F l)) (sPart h (ev F h))
  | .rev a => sRev (ev F a)
  | .comp vs g it c e => sComp vs (ev F g) (ev F it) (ev F c) (ev F e)
  | .comp2 vs vs1 g it c g1 it1 c1 e => sComp2 vs vs1 (ev F g) (ev F it) (ev F c) (ev F g1) (ev F it1) (ev F c1) (ev F e)
  | .rng a => sRng (ev F a)
  | .rng2 a b => sRng2 (ev F a) (ev F b)
  | .zip es => sZip (evs F es)
  | .zipS a => sZipS (ev F a)
  | .enum a => sEnum (ev F a)
  | .dnew => sDnew
  | .dnew1 k v => sDnew1 (ev F k) (ev F v)
  | .dget a k d => sDget (ev F a) (ev F k) (ev F d)
  | .dix a k => sDix (ev F a) (ev F k)
  | .din k a => sDin (ev F k) (ev F a)
  | .dnin k a => sDnin (ev F k) (ev F a)
  | .dkeys i => sDkeys i
  | .ditems i => sDitems i
def evs (F : Fn) : List E → List Sm
  | [] => []
  | e :: es => ev F e :: evs F es
end

/-! ### statements -/
inductive Out where
  | nx (s : St) | rt (b : B) (s : St) | bk (s : St) | ct (s : St) | xc (c : Nat) (s : St) | bad
def R.out {α : Type} (r : R α) (f : α → St → Out) : Out := match r with
  | .ok a s => f a s
  | .exc c s => .xc c s
  | .bad => .bad
def Out.then (o : Out) (f : St → Out) : Out := match o with
  | .nx s => f s
  | o => o
def forL (g : B → St → R Unit) (body : St → Out) : List D → St → Out
  | [], s => .nx s
  | x :: xs, s => (g (.val x) s).out fun _ s => match body s with
    | .nx s => forL g body xs s
    | .ct s => forL g body xs s
    | .bk s => .nx s
    | o => o
def whileL (c : St → R Bool) (body : St → Out) : Nat → St → Out
  | 0, _ => .bad
  | n + 1, s => (c s).out fun k s => match k with
    | true => (match body s with
      | .nx s => whileL c body n s
      | .ct s => whileL c body n s
      | .bk s => .nx s
      | o => o)
    | false => .nx s
/-- several values, lists of one's own among them -/
def sNew : List Sm → St → R (List B)
  | [], s => .ok [] s
  | m :: ms, s => (m.b s).bind fun v s => (sNew ms s).bind fun vs s => .ok (v :: vs) s
def sPuts : List Nat → List B → St → R Unit
  | [], [], s => .ok () s
  | i :: is, v :: vs, s => if i < s.env.length then sPuts is vs (setS s i v.t) else .bad
  | _, _, _ => .bad
def no2 : List B → Bool
  | [] => true
  | .new2 _ :: _ => false
  | .newd _ _ :: _ => false
  | _ :: bs => no2 bs
/-- what is returned: a list of one's own goes along -/
def retB (F : Fn) (e : E) (s : St) : R B := match e with
  | .var i => (match getS s i with
    | some t => .ok t.b s
    | none => .bad)
  | e => (ev F e).b s
def cup2? : B → Option (Int × Int)
  | .new [.int x, .int y] => some (x, y)
  | _ => none
/-- the most turns of a while; which exception class a clause takes -/
structure Par where
  W : Nat
  xm : Nat → Nat → Option Bool
mutual
def exec (P : Par) (F : Fn) : S → St → Out
  | .asg g e, s => ((ev F e).b s).out fun v s => ((ev F g).g v s).out fun _ s => .nx s
  | .par is es, s => (sNew (evs F es) s).out fun vs s => if no2 vs then (sPuts is vs s).out fun _ s => .nx s else .bad
  | .ex e, s => ((ev F e).b s).out fun _ s => .nx s
  | .append i e, s => match getS s i with
    | some (.own _) => ((ev F e).b s).out fun v s => (match getS s i with
      | some (.own xs) => if xs.length < big then .nx (setS s i (.own (xs ++ [v.d]))) else .bad
      | _ => .bad)
    | _ => .bad
  | .ret e, s => (retB F e s).out fun b s => .rt b s
  | .ifs c a b, s => ((ev F c).t s).out fun k s => match k with
    | true => execs P F a s
    | false => execs P F b s
  | .for_ g it body, s => ((ev F it).i true s).out fun xs s => forL (ev F g).g (execs P F body) xs s
  | .while_ c body, s => whileL (ev F c).t (execs P F body) P.W s
  | .raise c, s => .xc c s
  | .try_ body c suite, s => match execs P F body s with
    | .xc k s => (match P.xm k c with
      | some true => execs P F suite s
      | some false => .xc k s
      | none => .bad)
    | o => o
  | .pass, s => .nx s
  | .brk, s => .bk s
  | .cnt, s => .ct s
  | .cupS i e, s => ((ev F e).b s).out fun v s => match cup2? v, s.cup with
    | some (x, y), none => if i < s.env.length then .nx { env := s.env.set i (some (.leaf .cup)), cup := some (x, y) } else .bad
    | _, _ => .bad
  | .dput i k e, s => ((ev F e).b s).out fun v s => (match getS s i with
    | some (.dct _ _) => ((ev F k).p s).out fun y s => (match getS s i, key? y with
      | some (.dct ks vs), some n => if ks.length < big then .nx (setS s i (.dct (dPut n v.d ks vs).1 (dPut n v.d ks vs).2)) else .bad
      | _, _ => .bad)
    | _ => .bad)
  | .lock i, s => match getS s i with
    | some (.dct ks vs) => .nx (setS s i (.leaf (.dct true ks vs)))
    | some (.leaf (.dct true _ _)) => .nx s
    | _ => .bad
  | .move i j, s => match getS s j with
    | some (.dct ks vs) => if i < s.env.length ∧ i ≠ j then .nx { s with env := (s.env.set j none).set i (some (.dct ks vs)) } else .bad
    | _ => .bad
def execs (P : Par) (F : Fn) : List S → St → Out
  | [], s => .nx s
  | c :: cs, s => (exec P F c s).then (execs P F cs)
end

/-! ### defs -/
structure Df where
  np : Nat
  ns : Nat
  body : List S
def startS (ns : Nat) (vs : List D) (c : Cup) : St := ⟨vs.map (fun d => some (.leaf d)) ++ List.replicate (ns - vs.length) none, c⟩
/-- the cup is not made within -/
def kept (c c' : Cup) (r : CR) : CR := if c.isSome = c'.isSome then r else .bad
def runB (P : Par) (F : Fn) (f : Df) (vs : List D) (c : Cup) : CR := if vs.length = f.np then (match execs P F f.body (startS f.ns vs c) with
  | .nx s => kept c s.cup (.ok (.val .non) s.cup)
  | .rt b s => kept c s.cup (.ok b s.cup)
  | .xc k s => kept c s.cup (.exc k s.cup)
  | _ => .bad) else .bad
def callF (tb : Nat → Option Df) (P : Par) : Nat → Fn
  | 0, _, _, _ => .bad
  | n + 1, f, vs, c => match tb f with
    | some d => runB P (callF tb P n) d vs c
    | none => .bad
end Ev

/-! what the evaluator's data are in the model's memory -/
namespace Ev
open PySem PySem.Spec PyProof.Rows L2

/-- the top: the written part, where the defs and classes stand -/
structure Gam where
  K : PySem.W.Frag
  fa : Nat → Option Addr
  ca : Nat → Addr

/-- a dict that nobody changes; that is walked -/
def DL : Bool → Hp → Addr → List (List Key × V) → Prop
  | true, F, a, ws => ∃ o, F a = some (.frz o (.dT ws))
  | false, F, a, ws => Rd F a (.dT ws)
/-- a key, as the model has it -/
def kI (k : List Int) : List Key := k.map Sum.inl
section
variable (Γ : Gam) (κ : Option Addr) (F : Hp)
mutual
def Rp : V → D → Prop
  | v, .non => v = .non
  | v, .bl b => v = .bl b
  | v, .int i => v = .int i
  | v, .str s => v = .str s
  | v, .tup ds => ∃ a vs, v = .ref a ∧ F a = some (.tup vs) ∧ RpL vs ds
  | v, .lst ds => ∃ a vs, v = .ref a ∧ F a = some (.lst vs) ∧ RpL vs ds
  | v, .fn i => ∃ a, v = .ref a ∧ Γ.fa i = some a
  | v, .cls i => v = .ref (Γ.ca i)
  | v, .cup => ∃ a, v = .ref a ∧ κ = some a
  | v, .ro xs => ∃ a, v = .ref a ∧ SqL Γ.K F a (xs.map V.int)
  | v, .dct l ks ds => ∃ a ws, v = .ref a ∧ DL l F a ws ∧ ws.map Prod.fst = ks.map kI ∧ RpL (ws.map Prod.snd) ds
def RpL : List V → List D → Prop
  | vs, [] => vs = []
  | vs, d :: ds => ∃ v r, vs = v :: r ∧ Rp v d ∧ RpL r ds
end
/-- rows that are lists of one's own -/
def Rows (H : Hp) : List Addr → List (List D) → Prop
  | as, [] => as = []
  | as, ds :: r => ∃ a as' vs, as = a :: as' ∧ H a = some (.lst vs) ∧ RpL Γ κ F vs ds ∧ Rows H as' r
/-- a slot's tree, its own objects at as -/
def RT (H : Hp) (v : V) : T → List Addr → Prop
  | .leaf d, as => Rp Γ κ F v d ∧ as = []
  | .own ds, as => ∃ a vs, v = .ref a ∧ as = [a] ∧ H a = some (.lst vs) ∧ RpL Γ κ F vs ds
  | .own2 dss, as => ∃ a bs, v = .ref a ∧ as = a :: bs ∧ H a = some (.lst (bs.map V.ref)) ∧ Rows Γ κ F H bs dss
  | .dct ks ds, as => ∃ a ws, v = .ref a ∧ as = [a] ∧ H a = some (.dT ws) ∧ ws.map Prod.fst = ks.map kI ∧ RpL Γ κ F (ws.map Prod.snd) ds
end

/-- the ghost state: what is frozen, what there is, whose it is -/
structure Gh where
  F : Hp
  H : Hp
  ow : Nat → List Addr

def Sub (F H : Hp) : Prop := ∀ a o, F a = some o → H a = some o
theorem Sub.refl (F : Hp) : Sub F F := fun _ _ h => h
theorem Sub.trans {F G H : Hp} (a : Sub F G) (b : Sub G H) : Sub F H := fun x o h => b x o (a x o h)
theorem Sub.upd {F : Hp} {p : Addr} {o : HO} (h : F p = none) : Sub F (upd F p o) := fun a u e => by rw [upd_ne (ne_of_none e h)]; exact e
theorem Sub.rd {F H : Hp} {a : Addr} {u : HO} (e : Sub F H) (h : Rd F a u) : Rd H a u := by
  rcases h with h | ⟨o, h⟩
  · exact .inl (e a _ h)
  · exact .inr ⟨o, e a _ h⟩
theorem Sub.l {K : PySem.W.Frag} {F H : Hp} {a : Addr} {xs : List V} (e : Sub F H) (h : SqL K F a xs) : SqL K H a xs := by
  rcases h with h | h
  · exact .inl (e.rd h)
  · exact .inr h
theorem Sub.t {K : PySem.W.Frag} {F H : Hp} {a : Addr} {xs : List V} (e : Sub F H) (h : SqT K F a xs) : SqT K H a xs := by
  rcases h with h | h
  · exact .inl (e.rd h)
  · exact .inr h
theorem Sub.none {F H : Hp} (e : Sub F H) {a : Addr} (h : H a = Option.none) : F a = Option.none := by
  cases q : F a with
  | none => rfl
  | some o => rw [e a o q] at h; cases h

theorem DL.mono {F H : Hp} {l : Bool} {a : Addr} {ws : List (List Key × V)} (h : DL l F a ws) (e : Sub F H) : DL l H a ws := by
  cases l with
  | true => obtain ⟨o, h⟩ := h; exact ⟨o, e a _ h⟩
  | false => exact e.rd h
theorem DL.rd {F : Hp} {l : Bool} {a : Addr} {ws : List (List Key × V)} (h : DL l F a ws) : Rd F a (.dT ws) := by
  cases l with
  | true => obtain ⟨o, h⟩ := h; exact .inr ⟨o, h⟩
  | false => exact h
/-- the cup's address may come, and then stays -/
def KLe (κ κ' : Option Addr) : Prop := ∀ a, κ = some a → κ' = some a
theorem KLe.refl (κ : Option Addr) : KLe κ κ := fun _ h => h
section
variable {Γ : Gam} {κ κ' : Option Addr} {F F' H H' : Hp}
mutual
theorem Rp.mono (hκ : KLe κ κ') (hF : Sub F F') : ∀ (d : D) (v : V), Rp Γ κ F v d → Rp Γ κ' F' v d
  | .non, v, h => by unfold Rp at h ⊢; exact h
  | .bl _, v, h => by unfold Rp at h ⊢; exact h
  | .int _, v, h => by unfold Rp at h ⊢; exact h
  | .str _, v, h => by unfold Rp at h ⊢; exact h
  | .tup ds, v, h => by
    unfold Rp at h ⊢
    obtain ⟨a, vs, e, q, r⟩ := h
    exact ⟨a, vs, e, hF a _ q, RpL.mono hκ hF ds vs r⟩
  | .lst ds, v, h => by
    unfold Rp at h ⊢
    obtain ⟨a, vs, e, q, r⟩ := h
    exact ⟨a, vs, e, hF a _ q, RpL.mono hκ hF ds vs r⟩
  | .fn _, v, h => by unfold Rp at h ⊢; exact h
  | .cls _, v, h => by unfold Rp at h ⊢; exact h
  | .cup, v, h => by
    unfold Rp at h ⊢
    obtain ⟨a, e, q⟩ := h
    exact ⟨a, e, hκ a q⟩
  | .ro _, v, h => by
    unfold Rp at h ⊢
    obtain ⟨a, e, q⟩ := h
    exact ⟨a, e, hF.l q⟩
  | .dct l ks ds, v, h => by
    unfold Rp at h ⊢
    obtain ⟨a, ws, e, q, ek, r⟩ := h
    exact ⟨a, ws, e, q.mono hF, ek, RpL.mono hκ hF ds _ r⟩
theorem RpL.mono (hκ : KLe κ κ') (hF : Sub F F') : ∀ (ds : List D) (vs : List V), RpL Γ κ F vs ds → RpL Γ κ' F' vs ds
  | [], vs, h => by unfold RpL at h ⊢; exact h
  | d :: ds, vs, h => by
    unfold RpL at h ⊢
    obtain ⟨v, r, e, q, t⟩ := h
    exact ⟨v, r, e, Rp.mono hκ hF d v q, RpL.mono hκ hF ds r t⟩
end
theorem RpL.nil : RpL Γ κ F [] [] := by unfold RpL; rfl
theorem RpL.cons {v : V} {vs : List V} {d : D} {ds : List D} (h : Rp Γ κ F v d) (t : RpL Γ κ F vs ds) : RpL Γ κ F (v :: vs) (d :: ds) := by unfold RpL; exact ⟨v, vs, rfl, h, t⟩
theorem RpL.inv {vs : List V} {d : D} {ds : List D} (h : RpL Γ κ F vs (d :: ds)) : ∃ v r, vs = v :: r ∧ Rp Γ κ F v d ∧ RpL Γ κ F r ds := by unfold RpL at h; exact h
theorem RpL.inv0 {vs : List V} (h : RpL Γ κ F vs []) : vs = [] := by unfold RpL at h; exact h
theorem RpL.length : ∀ {ds : List D} {vs : List V}, RpL Γ κ F vs ds → vs.length = ds.length
  | [], vs, h => by rw [h.inv0]; rfl
  | d :: ds, vs, h => by
    obtain ⟨v, r, e, _, t⟩ := h.inv
    rw [e, List.length_cons, List.length_cons, RpL.length t]
theorem RpL.append : ∀ {ds es : List D} {vs ws : List V}, RpL Γ κ F vs ds → RpL Γ κ F ws es → RpL Γ κ F (vs ++ ws) (ds ++ es)
  | [], es, vs, ws, h, q => by rw [h.inv0]; exact q
  | d :: ds, es, vs, ws, h, q => by
    obtain ⟨v, r, e, h1, t⟩ := h.inv
    rw [e]
    exact .cons h1 (RpL.append t q)
theorem RpL.get : ∀ {ds : List D} {vs : List V} {i : Nat} {d : D}, RpL Γ κ F vs ds → ds[i]? = some d → ∃ v, vs[i]? = some v ∧ Rp Γ κ F v d
  | [], _, _, _, _, e => by simp at e
  | x :: ds, vs, 0, d, h, e => by
    obtain ⟨v, r, ev, h1, t⟩ := h.inv
    simp at e
    subst e
    exact ⟨v, by rw [ev]; rfl, h1⟩
  | x :: ds, vs, i + 1, d, h, e => by
    obtain ⟨v, r, ev, h1, t⟩ := h.inv
    obtain ⟨u, hu, q⟩ := RpL.get (i := i) t (by simpa using e)
    exact ⟨u, by rw [ev]; simpa using hu, q⟩
theorem RpL.set : ∀ {ds : List D} {vs : List V} {v : V} {d : D} (i : Nat), RpL Γ κ F vs ds → Rp Γ κ F v d → RpL Γ κ F (vs.set i v) (ds.set i d)
  | [], vs, v, d, i, h, q => by rw [h.inv0]; exact .nil
  | x :: ds, vs, v, d, 0, h, q => by
    obtain ⟨u, r, ev, h1, t⟩ := h.inv
    rw [ev]
    exact .cons q t
  | x :: ds, vs, v, d, i + 1, h, q => by
    obtain ⟨u, r, ev, h1, t⟩ := h.inv
    rw [ev]
    exact .cons h1 (RpL.set i t q)
theorem RpL.drop : ∀ {ds : List D} {vs : List V} (n : Nat), RpL Γ κ F vs ds → RpL Γ κ F (vs.drop n) (ds.drop n)
  | ds, vs, 0, h => h
  | [], vs, n + 1, h => by rw [h.inv0]; exact .nil
  | x :: ds, vs, n + 1, h => by
    obtain ⟨u, r, ev, h1, t⟩ := h.inv
    rw [ev]
    exact RpL.drop n t
theorem RpL.take : ∀ {ds : List D} {vs : List V} (n : Nat), RpL Γ κ F vs ds → RpL Γ κ F (vs.take n) (ds.take n)
  | ds, vs, 0, h => by simp only [List.take_zero]; exact .nil
  | [], vs, n + 1, h => by rw [h.inv0]; exact .nil
  | x :: ds, vs, n + 1, h => by
    obtain ⟨u, r, ev, h1, t⟩ := h.inv
    rw [ev]
    exact .cons h1 (RpL.take n t)
theorem RpL.reverse : ∀ {ds : List D} {vs : List V}, RpL Γ κ F vs ds → RpL Γ κ F vs.reverse ds.reverse
  | [], vs, h => by rw [h.inv0]; exact .nil
  | x :: ds, vs, h => by
    obtain ⟨u, r, ev, h1, t⟩ := h.inv
    rw [ev, List.reverse_cons, List.reverse_cons]
    exact (RpL.reverse t).append (.cons h1 .nil)
theorem RpL.rep {ds : List D} {vs : List V} (h : RpL Γ κ F vs ds) : ∀ k : Nat, RpL Γ κ F (List.replicate k vs).flatten (Ev.rep k ds)
  | 0 => .nil
  | k + 1 => by
    have := h.append (RpL.rep h k)
    unfold Ev.rep at this ⊢
    rw [List.replicate_succ, List.replicate_succ, List.flatten_cons, List.flatten_cons]
    exact this
theorem rpl_ints : ∀ {ds : List D} {ns : List Int} {vs : List V}, ints? ds = some ns → RpL Γ κ F vs ds → vs = ns.map V.int
  | [], ns, vs, e, h => by
    simp only [ints?, Option.some.injEq] at e
    subst e
    exact h.inv0
  | d :: ds, ns, vs, e, h => by
    obtain ⟨v, r, ev, h1, t⟩ := h.inv
    cases d with
    | int i =>
      simp only [ints?] at e
      cases q : ints? ds with
      | none => rw [q] at e; cases e
      | some ms =>
        rw [q] at e
        simp only [Option.map_some, Option.some.injEq] at e
        subst e
        unfold Rp at h1
        rw [ev, h1, rpl_ints q t, List.map_cons]
    | _ => simp [ints?] at e
theorem rpl_of_ints : ∀ (ns : List Int), RpL Γ κ F (ns.map V.int) (ns.map D.int)
  | [] => .nil
  | n :: ns => .cons (by unfold Rp; rfl) (rpl_of_ints ns)
theorem rpl_bools : ∀ {ds : List D} {ns : List Bool} {vs : List V}, bools? ds = some ns → RpL Γ κ F vs ds → vs = ns.map V.bl
  | [], ns, vs, e, h => by
    simp only [bools?, Option.some.injEq] at e
    subst e
    exact h.inv0
  | d :: ds, ns, vs, e, h => by
    obtain ⟨v, r, ev, h1, t⟩ := h.inv
    cases d with
    | bl i =>
      simp only [bools?] at e
      cases q : bools? ds with
      | none => rw [q] at e; cases e
      | some ms =>
        rw [q] at e
        simp only [Option.map_some, Option.some.injEq] at e
        subst e
        unfold Rp at h1
        rw [ev, h1, rpl_bools q t, List.map_cons]
    | _ => simp [bools?] at e
theorem Rows.mono (hκ : KLe κ κ') (hF : Sub F F') : ∀ {dss : List (List D)} {as : List Addr}, (∀ a ∈ as, H' a = H a) → Rows Γ κ F H as dss → Rows Γ κ' F' H' as dss
  | [], as, _, h => by unfold Rows at h ⊢; exact h
  | ds :: r, as, hh, h => by
    unfold Rows at h ⊢
    obtain ⟨a, as', vs, e, q, t, rr⟩ := h
    subst e
    exact ⟨a, as', vs, rfl, (hh a List.mem_cons_self).trans q, RpL.mono hκ hF ds vs t, Rows.mono hκ hF (fun b hb => hh b (List.mem_cons_of_mem _ hb)) rr⟩
theorem RT.mono {v : V} {t : T} {as : List Addr} (hκ : KLe κ κ') (hF : Sub F F') (hh : ∀ a ∈ as, H' a = H a) (h : RT Γ κ F H v t as) : RT Γ κ' F' H' v t as := by
  cases t with
  | leaf d => exact ⟨Rp.mono hκ hF d v h.1, h.2⟩
  | own ds =>
    obtain ⟨a, vs, e1, e2, q, r⟩ := h
    subst e2
    exact ⟨a, vs, e1, rfl, (hh a (by simp)).trans q, RpL.mono hκ hF ds vs r⟩
  | own2 dss =>
    obtain ⟨a, bs, e1, e2, q, r⟩ := h
    subst e2
    exact ⟨a, bs, e1, rfl, (hh a (by simp)).trans q, Rows.mono hκ hF (fun b hb => hh b (List.mem_cons_of_mem _ hb)) r⟩
  | dct ks ds =>
    obtain ⟨a, ws, e1, e2, q, ek, r⟩ := h
    subst e2
    exact ⟨a, ws, e1, rfl, (hh a (by simp)).trans q, ek, RpL.mono hκ hF ds _ r⟩
/-- an object that is there and no tuple -/
def NT (o : Option HO) : Prop := ∃ u, o = some u ∧ ∀ xs, u ≠ .tup xs
theorem NT.l {vs : List V} : NT (some (.lst vs)) := ⟨_, rfl, fun _ z => nomatch z⟩
theorem NT.d {ws : List (List Key × V)} : NT (some (.dT ws)) := ⟨_, rfl, fun _ z => nomatch z⟩
theorem NT.f {o : Obj} {u : HO} : NT (some (.frz o u)) := ⟨_, rfl, fun _ z => nomatch z⟩
theorem NT.n {o : Option HO} (h : NT o) : o ≠ none := by obtain ⟨u, e, _⟩ := h; rw [e]; exact fun z => nomatch z
theorem NT.t {o : Option HO} (h : NT o) (q : ∃ xs, o = some (.tup xs)) : False := by
  obtain ⟨u, e, n⟩ := h
  obtain ⟨xs, z⟩ := q
  rw [e] at z
  exact n xs (Option.some.inj z)
/-- the rows' addresses, where they stand -/
theorem Rows.at_ : ∀ {dss : List (List D)} {as : List Addr}, Rows Γ κ F H as dss → ∀ a ∈ as, ∃ vs, H a = some (.lst vs)
  | [], as, h, a, ha => by unfold Rows at h; rw [h] at ha; cases ha
  | ds :: r, as, h, a, ha => by
    unfold Rows at h
    obtain ⟨b, as', vs, e, q, t, rr⟩ := h
    subst e
    rcases List.mem_cons.mp ha with z | z
    · rw [z]; exact ⟨vs, q⟩
    · exact rr.at_ a z
theorem RT.at_ {v : V} {t : T} {as : List Addr} (h : RT Γ κ F H v t as) : ∀ a ∈ as, NT (H a) := by
  cases t with
  | leaf d => intro a ha; rw [h.2] at ha; cases ha
  | own ds =>
    obtain ⟨a, vs, e1, e2, q, r⟩ := h
    subst e2
    intro b hb
    rw [List.mem_singleton.mp hb, q]
    exact .l
  | own2 dss =>
    obtain ⟨a, bs, e1, e2, q, r⟩ := h
    subst e2
    intro b hb
    rcases List.mem_cons.mp hb with z | z
    · rw [z, q]; exact .l
    · obtain ⟨vs, y⟩ := r.at_ b z
      rw [y]; exact .l
  | dct ks ds =>
    obtain ⟨a, ws, e1, e2, q, r⟩ := h
    subst e2
    intro b hb
    rw [List.mem_singleton.mp hb, q]
    exact .d
end

/-! ### the state -/
def CupOk (c : Cup) (κ : Option Addr) (g : Gh) : Prop := match c, κ with
  | some (x, y), some a => g.F a = none ∧ g.H a = some (.lst [.int x, .int y])
  | none, none => True
  | _, _ => False
/-- the def's slots and the cup, as the evaluator has them -/
structure Rel (Γ : Gam) (κ : Option Addr) (H0 : Hp) (σ : L2.St) (s : St) (g : Gh) : Prop where
  len : s.env.length = σ.length
  slot : ∀ i t, getS s i = some t → ∃ v, σ[i]? = some (some v) ∧ RT Γ κ g.F g.H v t (g.ow i)
  emp : ∀ i, getS s i = none → g.ow i = []
  nd : ∀ i, (g.ow i).Nodup
  dj : ∀ i j a, a ∈ g.ow i → a ∈ g.ow j → i = j
  fr : ∀ i a, a ∈ g.ow i → g.F a = none ∧ κ ≠ some a
  sub : Sub g.F g.H
  cup : CupOk s.cup κ g
  old : ∀ i a, a ∈ g.ow i → H0 a = none
  grow : ∀ a, H0 a ≠ none → g.H a ≠ none
/-- what an expression leaves as it was -/
structure StepE (κ : Option Addr) (g g' : Gh) : Prop where
  keep : ∀ a o, g.H a = some o → κ ≠ some a → g'.H a = some o
  sub : Sub g.F g'.F
  new : ∀ a, g'.F a ≠ none → g.F a ≠ none ∨ (∃ i, a ∈ g.ow i) ∨ g.H a = none ∨ κ ≠ some a ∧ ∃ xs, g.H a = some (.tup xs)
  ow : ∀ i a, a ∈ g'.ow i → a ∈ g.ow i
  there : ∀ a, g.H a ≠ none → g'.H a ≠ none
theorem StepE.refl (κ : Option Addr) (g : Gh) : StepE κ g g := ⟨fun _ _ h _ => h, Sub.refl _, fun _ h => .inl h, fun _ _ h => h, fun _ h => h⟩
theorem StepE.trans {κ : Option Addr} {g g' g'' : Gh} (a : StepE κ g g') (b : StepE κ g' g'') : StepE κ g g'' where
  keep := fun x o h n => b.keep x o (a.keep x o h n) n
  sub := a.sub.trans b.sub
  new := fun x h => by
    rcases b.new x h with z | ⟨i, z⟩ | z
    · exact a.new x z
    · exact .inr (.inl ⟨i, a.ow i x z⟩)
    · refine .inr (.inr ?_)
      rcases z with z | ⟨hk, xs, z⟩
      · exact .inl (Classical.byContradiction fun q => a.there x q z)
      · cases q : g.H x with
        | none => exact .inl rfl
        | some o =>
          rw [a.keep x o q hk] at z
          exact .inr ⟨hk, xs, z⟩
  ow := fun i x h => a.ow i x (b.ow i x h)
  there := fun x h => b.there x (a.there x h)

/-- an operand: a value; a list may be one's own -/
def Pk (Γ : Gam) (κ : Option Addr) (g : Gh) (v : V) : D → Prop
  | .lst ds => ∃ a vs, v = .ref a ∧ g.H a = some (.lst vs) ∧ κ ≠ some a ∧ RpL Γ κ g.F vs ds
  | .dct _ ks ds => ∃ a ws, v = .ref a ∧ Rd g.H a (.dT ws) ∧ κ ≠ some a ∧ ws.map Prod.fst = ks.map kI ∧ RpL Γ κ g.F (ws.map Prod.snd) ds
  | d => Rp Γ κ g.F v d
def PkL (Γ : Gam) (κ : Option Addr) (g : Gh) : List V → List D → Prop
  | vs, [] => vs = []
  | vs, d :: ds => ∃ v r, vs = v :: r ∧ Pk Γ κ g v d ∧ PkL Γ κ g r ds
/-- nobody's object yet -/
def Loose (κ : Option Addr) (g : Gh) (a : Addr) : Prop := g.F a = none ∧ (∀ i, a ∉ g.ow i) ∧ κ ≠ some a
/-- an expression's value -/
def RB (Γ : Gam) (κ : Option Addr) (H : Hp) (g : Gh) (v : V) : B → Prop
  | .val d => Rp Γ κ g.F v d
  | .new ds => ∃ a vs, v = .ref a ∧ g.H a = some (.lst vs) ∧ RpL Γ κ g.F vs ds ∧ H a = none ∧ Loose κ g a
  | .new2 dss => ∃ a bs, v = .ref a ∧ g.H a = some (.lst (bs.map V.ref)) ∧ Rows Γ κ g.F g.H bs dss ∧ (∀ b ∈ a :: bs, H b = none ∧ Loose κ g b) ∧ (a :: bs).Nodup
  | .newd ks ds => ∃ a ws, v = .ref a ∧ g.H a = some (.dT ws) ∧ ws.map Prod.fst = ks.map kI ∧ RpL Γ κ g.F (ws.map Prod.snd) ds ∧ H a = none ∧ Loose κ g a

section
variable {Γ : Gam} {κ : Option Addr} {H0 : Hp} {σ : L2.St} {s : St} {g g' : Gh}
theorem Rel.κF (r : Rel Γ κ H0 σ s g) {a : Addr} (e : κ = some a) : g.F a = none ∧ ∃ x y, s.cup = some (x, y) ∧ g.H a = some (.lst [.int x, .int y]) := by
  have c := r.cup
  subst e
  unfold CupOk at c
  cases q : s.cup with
  | none => rw [q] at c; exact c.elim
  | some xy => obtain ⟨x, y⟩ := xy; rw [q] at c; exact ⟨c.1, x, y, rfl, c.2⟩
theorem Rel.free (r : Rel Γ κ H0 σ s g) {a : Addr} (h : g.H a = none) : g.F a = none ∧ (∀ i, a ∉ g.ow i) ∧ κ ≠ some a := by
  refine ⟨r.sub.none h, fun i hi => ?_, fun e => ?_⟩
  · cases q : getS s i with
    | none => rw [r.emp i q] at hi; cases hi
    | some t =>
      obtain ⟨v, _, rt⟩ := r.slot i t q
      exact absurd h (rt.at_ a hi).n
  · obtain ⟨_, x, y, _, z⟩ := r.κF e
    rw [h] at z; cases z
theorem Rp.pk (r : Rel Γ κ H0 σ s g) {v : V} {d : D} (h : Rp Γ κ g.F v d) : Pk Γ κ g v d := by
  cases d with
  | lst ds =>
    unfold Rp at h
    obtain ⟨a, vs, e, q, t⟩ := h
    exact ⟨a, vs, e, r.sub a _ q, (fun z => by rw [(r.κF z).1] at q; cases q), t⟩
  | dct l ks ds =>
    unfold Rp at h
    obtain ⟨a, ws, e, q, ek, t⟩ := h
    have q := q.rd
    refine ⟨a, ws, e, r.sub.rd q, (fun z => ?_), ek, t⟩
    rcases q with q | ⟨o, q⟩
    · rw [(r.κF z).1] at q; cases q
    · rw [(r.κF z).1] at q; cases q
  | _ => exact h
theorem KLe.rfl' {κ : Option Addr} : KLe κ κ := fun _ h => h
theorem Pk.step {v : V} {d : D} (st : StepE κ g g') (h : Pk Γ κ g v d) : Pk Γ κ g' v d := by
  cases d with
  | lst ds =>
    obtain ⟨a, vs, e, q, n, t⟩ := h
    exact ⟨a, vs, e, st.keep a _ q n, n, RpL.mono .rfl' st.sub ds vs t⟩
  | dct l ks ds =>
    obtain ⟨a, ws, e, q, n, ek, t⟩ := h
    refine ⟨a, ws, e, ?_, n, ek, RpL.mono .rfl' st.sub ds _ t⟩
    rcases q with q | ⟨o, q⟩
    · exact .inl (st.keep a _ q n)
    · exact .inr ⟨o, st.keep a _ q n⟩
  | _ => exact Rp.mono .rfl' st.sub _ v h
theorem PkL.step : ∀ {ds : List D} {vs : List V}, StepE κ g g' → PkL Γ κ g vs ds → PkL Γ κ g' vs ds
  | [], vs, _, h => h
  | d :: ds, vs, st, h => by
    obtain ⟨v, r, e, q, t⟩ := h
    exact ⟨v, r, e, q.step st, PkL.step st t⟩
theorem RpL.pkl (r : Rel Γ κ H0 σ s g) : ∀ {ds : List D} {vs : List V}, RpL Γ κ g.F vs ds → PkL Γ κ g vs ds
  | [], vs, h => h.inv0
  | d :: ds, vs, h => by
    obtain ⟨v, r', e, q, t⟩ := h.inv
    exact ⟨v, r', e, q.pk r, RpL.pkl r t⟩
/-- a list, a tuple that is looked at -/
theorem Pk.lst {v : V} {ds : List D} (h : Pk Γ κ g v (.lst ds)) : ∃ a vs, v = .ref a ∧ g.H a = some (.lst vs) ∧ RpL Γ κ g.F vs ds := by
  obtain ⟨a, vs, e, q, _, t⟩ := h
  exact ⟨a, vs, e, q, t⟩
theorem Pk.tup (r : Rel Γ κ H0 σ s g) {v : V} {ds : List D} (h : Pk Γ κ g v (.tup ds)) : ∃ a vs, v = .ref a ∧ SqT Γ.K g.H a vs ∧ RpL Γ κ g.F vs ds := by
  have h' : Rp Γ κ g.F v (.tup ds) := h
  unfold Rp at h'
  obtain ⟨a, vs, e, q, t⟩ := h'
  exact ⟨a, vs, e, .inl (.inl (r.sub a _ q)), t⟩
theorem Pk.items (r : Rel Γ κ H0 σ s g) {v : V} {d : D} {ds : List D} (h : Pk Γ κ g v d) (e : items? d = some ds) : ∃ a vs, v = .ref a ∧ (SqL Γ.K g.H a vs ∨ SqT Γ.K g.H a vs) ∧ RpL Γ κ g.F vs ds := by
  cases d with
  | lst xs =>
    simp only [items?, Option.some.injEq] at e
    subst e
    obtain ⟨a, vs, e, q, t⟩ := h.lst
    exact ⟨a, vs, e, .inl (.of q), t⟩
  | tup xs =>
    simp only [items?, Option.some.injEq] at e
    subst e
    obtain ⟨a, vs, e, q, t⟩ := h.tup r
    exact ⟨a, vs, e, .inr q, t⟩
  | _ => simp [items?] at e
end
end Ev

/-! steps of the state -/
namespace Ev
open PySem PySem.Spec PyProof.Rows L2
section
variable {Γ : Gam} {κ : Option Addr} {H0 : Hp} {σ : L2.St} {s : St} {g g' : Gh}

theorem RT.stepE {v : V} {t : T} {as : List Addr} (st : StepE κ g g') (hn : ∀ a ∈ as, κ ≠ some a) (h : RT Γ κ g.F g.H v t as) : RT Γ κ g'.F g'.H v t as :=
  RT.mono .rfl' st.sub (fun a ha => by
    obtain ⟨u, q, _⟩ := h.at_ a ha
    rw [st.keep a _ q (hn a ha), q]) h
theorem CupOk.same {c : Cup} (h : CupOk c κ g) (hF : ∀ a, κ = some a → g'.F a = g.F a) (hH : ∀ a, κ = some a → g'.H a = g.H a) : CupOk c κ g' := by
  unfold CupOk at h ⊢
  cases c with
  | none => cases κ with
    | none => exact h
    | some a => exact h
  | some xy => cases κ with
    | none => exact h
    | some a =>
      obtain ⟨x, y⟩ := xy
      exact ⟨(hF a rfl).trans h.1, (hH a rfl).trans h.2⟩

/-- a new object; frozen or not -/
theorem Rel.laid (r : Rel Γ κ H0 σ s g) {p : Addr} (hp : g.H p = none) (o : HO) :
    Rel Γ κ H0 σ s ⟨g.F, upd g.H p o, g.ow⟩ ∧ StepE κ g ⟨g.F, upd g.H p o, g.ow⟩ ∧ Loose κ (⟨g.F, upd g.H p o, g.ow⟩ : Gh) p := by
  obtain ⟨f1, f2, f3⟩ := r.free hp
  have st : StepE κ g ⟨g.F, upd g.H p o, g.ow⟩ := ⟨fun a u e n => by show upd g.H p o a = some u; rw [upd_ne (ne_of_none e hp)]; exact e, Sub.refl _, fun a h => .inl h, fun _ _ h => h, fun a h => by
    show upd g.H p o a ≠ none
    by_cases e : a = p
    · rw [e, upd_same]; exact fun z => nomatch z
    · rw [upd_ne e]; exact h⟩
  refine ⟨⟨r.len, fun i t h => ?_, r.emp, r.nd, r.dj, r.fr, fun a u e => ?_, r.cup.same (fun _ _ => rfl) fun a e => ?_, r.old, fun a h => st.there a (r.grow a h)⟩, st, f1, f2, f3⟩
  · obtain ⟨v, e, rt⟩ := r.slot i t h
    exact ⟨v, e, rt.stepE st fun a ha => (r.fr i a ha).2⟩
  · show upd g.H p o a = some u
    have := r.sub a u e
    rw [upd_ne (ne_of_none this hp)]; exact this
  · show upd g.H p o a = g.H a
    rw [upd_ne fun z => f3 (by rw [← z]; exact e)]
/-- a loose object is frozen -/
theorem Rel.frz (r : Rel Γ κ H0 σ s g) {p : Addr} {o : HO} (hp : g.H p = some o) (l : Loose κ g p) :
    Rel Γ κ H0 σ s ⟨upd g.F p o, g.H, g.ow⟩ ∧ (∀ g0, StepE κ g0 g → g0.H p = none → StepE κ g0 ⟨upd g.F p o, g.H, g.ow⟩) ∧ Sub g.F (upd g.F p o) := by
  obtain ⟨f1, f2, f3⟩ := l
  have sb : Sub g.F (upd g.F p o) := .upd f1
  refine ⟨⟨r.len, fun i t h => ?_, r.emp, r.nd, r.dj, fun i a ha => ⟨?_, (r.fr i a ha).2⟩, fun a u e => ?_, r.cup.same (fun a e => ?_) fun _ _ => rfl, r.old, r.grow⟩, fun g0 st h0 => ⟨st.keep, st.sub.trans sb, fun a h => ?_, st.ow, st.there⟩, sb⟩
  · obtain ⟨v, e, rt⟩ := r.slot i t h
    exact ⟨v, e, RT.mono .rfl' sb (fun _ _ => rfl) rt⟩
  · show upd g.F p o a = none
    rw [upd_ne fun z => f2 i (by rw [← z]; exact ha)]
    exact (r.fr i a ha).1
  · have e' : upd g.F p o a = some u := e
    by_cases z : a = p
    · rw [z, upd_same] at e'
      rw [z, hp]; exact e'
    · rw [upd_ne z] at e'
      exact r.sub a u e'
  · show upd g.F p o a = g.F a
    rw [upd_ne fun z => f3 (by rw [← z]; exact e)]
  · have h' : upd g.F p o a ≠ none := h
    by_cases z : a = p
    · rw [z]; exact .inr (.inr (.inl h0))
    · rw [upd_ne z] at h'
      exact st.new a h'
theorem Rel.laidF (r : Rel Γ κ H0 σ s g) {p : Addr} (hp : g.H p = none) (o : HO) :
    Rel Γ κ H0 σ s ⟨upd g.F p o, upd g.H p o, g.ow⟩ ∧ StepE κ g ⟨upd g.F p o, upd g.H p o, g.ow⟩ ∧ Sub g.F (upd g.F p o) := by
  obtain ⟨r1, st1, l⟩ := r.laid hp o
  obtain ⟨r2, st2, sb⟩ := r1.frz (p := p) (o := o) upd_same l
  exact ⟨r2, st2 g st1 hp, sb⟩

/-- rows of one's own, frozen one by one -/
theorem Rel.frzRows : ∀ {dss : List (List D)} {bs : List Addr} {g : Gh}, Rel Γ κ H0 σ s g → Rows Γ κ g.F g.H bs dss → (∀ b ∈ bs, Loose κ g b) → bs.Nodup →
    ∃ F', Rel Γ κ H0 σ s ⟨F', g.H, g.ow⟩ ∧ Sub g.F F' ∧ RpL Γ κ F' (bs.map V.ref) (dss.map .lst) ∧ ∀ a, F' a ≠ none → g.F a ≠ none ∨ a ∈ bs
  | [], bs, g, r, h, _, _ => by
    unfold Rows at h
    subst h
    exact ⟨g.F, r, Sub.refl _, .nil, fun a h => .inl h⟩
  | ds :: dss, bs, g, r, h, hl, nd => by
    unfold Rows at h
    obtain ⟨a, as, vs, e, q, t, rr⟩ := h
    subst e
    obtain ⟨r1, _, sb⟩ := r.frz q (hl a List.mem_cons_self)
    have nd' := List.nodup_cons.mp nd
    obtain ⟨F', r2, sb2, rp, nw⟩ := Rel.frzRows (g := ⟨upd g.F a (.lst vs), g.H, g.ow⟩) r1 (Rows.mono .rfl' sb (fun _ _ => rfl) rr) (fun b hb => by
      obtain ⟨l1, l2, l3⟩ := hl b (List.mem_cons_of_mem _ hb)
      refine ⟨?_, l2, l3⟩
      show upd g.F a _ b = none
      rw [upd_ne fun z => nd'.1 (by rw [← z]; exact hb)]
      exact l1) nd'.2
    refine ⟨F', r2, sb.trans sb2, .cons ?_ rp, fun x hx => ?_⟩
    · unfold Rp
      exact ⟨a, vs, rfl, sb2 a _ upd_same, RpL.mono .rfl' (sb.trans sb2) ds vs t⟩
    · rcases nw x hx with z | z
      · have z' : upd g.F a (.lst vs) x ≠ none := z
        by_cases e : x = a
        · exact .inr (by simp [e])
        · rw [upd_ne e] at z'; exact .inl z'
      · exact .inr (List.mem_cons_of_mem _ z)
/-- an expression's value, frozen -/
theorem RB.frz {v : V} {b : B} {g0 : Gh} (r : Rel Γ κ H0 σ s g) (st : StepE κ g0 g) (h : RB Γ κ g0.H g v b) : ∃ F', Rel Γ κ H0 σ s ⟨F', g.H, g.ow⟩ ∧ StepE κ g0 ⟨F', g.H, g.ow⟩ ∧ Sub g.F F' ∧ Rp Γ κ F' v b.d := by
  cases b with
  | val d => exact ⟨g.F, r, st, Sub.refl _, h⟩
  | new ds =>
    obtain ⟨a, vs, e, q, t, h0, l⟩ := h
    obtain ⟨r1, st1, sb⟩ := r.frz q l
    refine ⟨_, r1, st1 g0 st h0, sb, ?_⟩
    show Rp Γ κ _ v (.lst ds)
    unfold Rp
    exact ⟨a, vs, e, upd_same, RpL.mono .rfl' sb ds vs t⟩
  | new2 dss =>
    obtain ⟨a, bs, e, q, t, hl, nd⟩ := h
    have nd' := List.nodup_cons.mp nd
    obtain ⟨F1, r1, sb1, rp, nw⟩ := r.frzRows t (fun b hb => (hl b (List.mem_cons_of_mem _ hb)).2) nd'.2
    have st1 : StepE κ g0 ⟨F1, g.H, g.ow⟩ := ⟨st.keep, st.sub.trans sb1, fun x hx => by
      rcases nw x hx with z | z
      · exact st.new x z
      · exact .inr (.inr (.inl (hl x (List.mem_cons_of_mem _ z)).1)), st.ow, st.there⟩
    obtain ⟨h0, l1, l2, l3⟩ := hl a List.mem_cons_self
    have l' : Loose κ (⟨F1, g.H, g.ow⟩ : Gh) a := ⟨by
      cases z : F1 a with
      | none => exact z
      | some u =>
        rcases nw a (by rw [z]; exact fun y => nomatch y) with y | y
        · exact absurd l1 y
        · exact absurd y nd'.1, l2, l3⟩
    obtain ⟨r2, st2, sb2⟩ := r1.frz (p := a) q l'
    refine ⟨_, r2, st2 g0 st1 h0, sb1.trans sb2, ?_⟩
    show Rp Γ κ _ v (.lst (dss.map .lst))
    unfold Rp
    exact ⟨a, bs.map V.ref, e, upd_same, RpL.mono .rfl' sb2 _ _ rp⟩
  | newd ks ds =>
    obtain ⟨a, ws, e, q, ek, t, h0, l⟩ := h
    obtain ⟨r1, st1, sb⟩ := r.frz q l
    refine ⟨_, r1, st1 g0 st h0, sb, ?_⟩
    show Rp Γ κ _ v (.dct false ks ds)
    unfold Rp
    exact ⟨a, ws, e, .inl upd_same, ek, RpL.mono .rfl' sb ds _ t⟩
theorem RB.step {v : V} {b : B} {H1 : Hp} {g2 : Gh} (st : StepE κ g g2) (r : Rel Γ κ H0 σ s g) (h : RB Γ κ H1 g v b) (hl : ∀ a, Loose κ g a → NT (g.H a) → Loose κ g2 a) : RB Γ κ H1 g2 v b := by
  cases b with
  | val d => exact Rp.mono .rfl' st.sub d v h
  | new ds =>
    obtain ⟨a, vs, e, q, t, h0, l⟩ := h
    exact ⟨a, vs, e, st.keep a _ q l.2.2, RpL.mono .rfl' st.sub ds vs t, h0, hl a l (by rw [q]; exact .l)⟩
  | new2 dss =>
    obtain ⟨a, bs, e, q, t, hb, nd⟩ := h
    have there : ∀ b ∈ a :: bs, g2.H b = g.H b ∧ NT (g.H b) := fun b hm => by
      rcases List.mem_cons.mp hm with z | z
      · rw [z]; exact ⟨(st.keep a _ q (hb a List.mem_cons_self).2.2.2).trans q.symm, by rw [q]; exact .l⟩
      · obtain ⟨vs, y⟩ := t.at_ b z
        exact ⟨(st.keep b _ y (hb b hm).2.2.2).trans y.symm, by rw [y]; exact .l⟩
    exact ⟨a, bs, e, (there a List.mem_cons_self).1.trans q, Rows.mono .rfl' st.sub (fun b hm => (there b (List.mem_cons_of_mem _ hm)).1) t, fun b hm => ⟨(hb b hm).1, hl b (hb b hm).2 (there b hm).2⟩, nd⟩
  | newd ks ds =>
    obtain ⟨a, ws, e, q, ek, t, h0, l⟩ := h
    exact ⟨a, ws, e, st.keep a _ q l.2.2, ek, RpL.mono .rfl' st.sub ds _ t, h0, hl a l (by rw [q]; exact .d)⟩
/-- a loose object stays loose over an expression -/
theorem Loose.step {a : Addr} (st : StepE κ g g') (l : Loose κ g a) (h : NT (g.H a)) : Loose κ g' a := by
  refine ⟨?_, fun i hi => l.2.1 i (st.ow i a hi), l.2.2⟩
  cases q : g'.F a with
  | none => rfl
  | some u =>
    rcases st.new a (by rw [q]; exact fun z => nomatch z) with z | ⟨i, z⟩ | z | ⟨_, z⟩
    · exact absurd l.1 z
    · exact absurd z (l.2.1 i)
    · exact absurd z h.n
    · exact (h.t z).elim

/-! ### slots -/
theorem getS_set {i j : Nat} {t : T} (h : i < s.env.length) : getS (setS s i t) j = if j = i then some t else getS s j := by
  unfold getS setS
  by_cases e : j = i
  · subst e
    simp [h]
  · rw [if_neg e]
    simp only []
    rw [List.getElem?_set_ne (Ne.symm e)]
theorem getS_lt {i : Nat} {t : T} (h : getS s i = some t) : i < s.env.length := by
  unfold getS at h
  cases q : s.env[i]? with
  | none => rw [q] at h; cases h
  | some u => exact (List.getElem?_eq_some_iff.mp q).1
/-- a slot's own list is handed on: frozen -/
theorem Rel.drop1 (r : Rel Γ κ H0 σ s g) {i : Nat} {t t' : T} {v : V} (hs : getS s i = some t) (hv : σ[i]? = some (some v)) {F' : Hp} {as : List Addr} (sb : Sub g.F F') (nw : ∀ a, F' a ≠ none → g.F a ≠ none ∨ (a ∈ g.ow i ∧ a ∉ as)) (sH : Sub F' g.H)
    (ha : ∀ a ∈ as, a ∈ g.ow i) (nd : as.Nodup) (rt : RT Γ κ F' g.H v t' as) :
    Rel Γ κ H0 σ (setS s i t') ⟨F', g.H, fun j => if j = i then as else g.ow j⟩ ∧ StepE κ g ⟨F', g.H, fun j => if j = i then as else g.ow j⟩ := by
  have hi := getS_lt hs
  have sub_ow : ∀ j a, a ∈ (if j = i then as else g.ow j) → a ∈ g.ow j := fun j a h => by
    by_cases e : j = i
    · rw [if_pos e] at h; rw [e]; exact ha a h
    · rw [if_neg e] at h; exact h
  have fF : ∀ j a, a ∈ (if j = i then as else g.ow j) → F' a = none := fun j a h => by
    cases q : F' a with
    | none => rfl
    | some u =>
      rcases nw a (by rw [q]; exact fun z => nomatch z) with z | ⟨z, z'⟩
      · exact absurd (r.fr j a (sub_ow j a h)).1 z
      · have e := r.dj _ _ a (sub_ow j a h) z
        rw [if_pos e] at h
        exact absurd h z'
  refine ⟨⟨?_, fun j u h => ?_, fun j h => ?_, fun j => ?_, fun j k a h1 h2 => r.dj j k a (sub_ow j a h1) (sub_ow k a h2), fun j a h => ⟨fF j a h, (r.fr j a (sub_ow j a h)).2⟩, sH, r.cup.same (fun a e => ?_) fun _ _ => rfl, fun j a h => r.old j a (sub_ow j a h), r.grow⟩,
    ⟨fun _ _ h _ => h, sb, fun a h => ?_, sub_ow, fun _ h => h⟩⟩
  · show (s.env.set i (some t')).length = σ.length
    rw [List.length_set]; exact r.len
  · rw [getS_set hi] at h
    by_cases e : j = i
    · subst e
      rw [if_pos rfl] at h
      cases h
      refine ⟨v, hv, ?_⟩
      show RT Γ κ F' g.H v t' (if j = j then as else g.ow j)
      rw [if_pos rfl]; exact rt
    · rw [if_neg e] at h
      obtain ⟨w, hw, q⟩ := r.slot j u h
      refine ⟨w, hw, ?_⟩
      show RT Γ κ F' g.H w u (if j = i then as else g.ow j)
      rw [if_neg e]
      exact RT.mono .rfl' sb (fun _ _ => rfl) q
  · rw [getS_set hi] at h
    by_cases e : j = i
    · rw [if_pos e] at h; cases h
    · rw [if_neg e] at h
      show (if j = i then as else g.ow j) = []
      rw [if_neg e]; exact r.emp j h
  · show (if j = i then as else g.ow j).Nodup
    by_cases e : j = i
    · rw [if_pos e]; exact nd
    · rw [if_neg e]; exact r.nd j
  · show F' a = g.F a
    have h0 := (r.κF e).1
    rw [h0]
    cases q : F' a with
    | none => rfl
    | some u =>
      rcases nw a (by rw [q]; exact fun z => nomatch z) with z | ⟨z, _⟩
      · exact absurd h0 z
      · exact absurd e (r.fr i a z).2
  · rcases nw a h with z | ⟨z, _⟩
    · exact .inl z
    · exact .inr (.inl ⟨i, z⟩)
/-- freezing the rows of a slot -/
theorem frzRowsF {F H : Hp} : ∀ {dss : List (List D)} {bs : List Addr}, Rows Γ κ F H bs dss → (∀ b ∈ bs, F b = none) → bs.Nodup → ∀ F1, Sub F F1 → (∀ b ∈ bs, F1 b = H b) → RpL Γ κ F1 (bs.map V.ref) (dss.map .lst)
  | [], bs, h, _, _, _, _, _ => by
    unfold Rows at h
    subst h
    exact .nil
  | ds :: dss, bs, h, hn, nd, F1, sb, hb => by
    unfold Rows at h
    obtain ⟨a, as, vs, e, q, t, rr⟩ := h
    subst e
    refine .cons ?_ (frzRowsF rr (fun b hb' => hn b (List.mem_cons_of_mem _ hb')) (List.nodup_cons.mp nd).2 F1 sb fun b hb' => hb b (List.mem_cons_of_mem _ hb'))
    unfold Rp
    exact ⟨a, vs, rfl, (hb a List.mem_cons_self).trans q, RpL.mono .rfl' sb ds vs t⟩
/-- F with the objects at as frozen -/
def frzAt (F H : Hp) (as : List Addr) : Hp := fun a => if a ∈ as then H a else F a
theorem frzAt_in {F H : Hp} {as : List Addr} {a : Addr} (h : a ∈ as) : frzAt F H as a = H a := by unfold frzAt; rw [if_pos h]
theorem frzAt_out {F H : Hp} {as : List Addr} {a : Addr} (h : a ∉ as) : frzAt F H as a = F a := by unfold frzAt; rw [if_neg h]
theorem frzAt_sub {F H : Hp} {as : List Addr} (h : ∀ a ∈ as, F a = none) : Sub F (frzAt F H as) := fun a o e => by
  rw [frzAt_out fun z => by rw [h a z] at e; cases e]; exact e
theorem frzAt_H {F H : Hp} {as : List Addr} (h : Sub F H) : Sub (frzAt F H as) H := fun a o e => by
  by_cases z : a ∈ as
  · rw [frzAt_in z] at e; exact e
  · rw [frzAt_out z] at e; exact h a o e
/-- a slot's tree, frozen whole -/
theorem RT.frz (r : Rel Γ κ H0 σ s g) {i : Nat} {t : T} {v : V} (hs : getS s i = some t) (hv : σ[i]? = some (some v)) (rt : RT Γ κ g.F g.H v t (g.ow i)) :
    ∃ g', Rel Γ κ H0 σ (setS s i (.leaf t.d)) g' ∧ StepE κ g g' ∧ g'.H = g.H ∧ Rp Γ κ g'.F v t.d := by
  have fn : ∀ a ∈ g.ow i, g.F a = none := fun a ha => (r.fr i a ha).1
  have rp : Rp Γ κ (frzAt g.F g.H (g.ow i)) v t.d := by
    cases t with
    | leaf d => exact Rp.mono .rfl' (frzAt_sub fn) d v rt.1
    | own ds =>
      obtain ⟨a, vs, e1, e2, q, rr⟩ := rt
      show Rp Γ κ _ v (.lst ds)
      unfold Rp
      refine ⟨a, vs, e1, ?_, RpL.mono .rfl' (frzAt_sub fn) ds vs rr⟩
      rw [frzAt_in (by rw [e2]; simp)]; exact q
    | own2 dss =>
      obtain ⟨a, bs, e1, e2, q, rr⟩ := rt
      show Rp Γ κ _ v (.lst (dss.map .lst))
      unfold Rp
      have nd := r.nd i
      rw [e2] at nd
      refine ⟨a, bs.map V.ref, e1, ?_, frzRowsF rr (fun b hb => fn b (by rw [e2]; exact List.mem_cons_of_mem _ hb)) (List.nodup_cons.mp nd).2 _ (frzAt_sub fn) fun b hb => ?_⟩
      · rw [frzAt_in (by rw [e2]; simp)]; exact q
      · rw [frzAt_in (by rw [e2]; exact List.mem_cons_of_mem _ hb)]
    | dct ks ds =>
      obtain ⟨a, ws, e1, e2, q, ek, rr⟩ := rt
      show Rp Γ κ _ v (.dct false ks ds)
      unfold Rp
      refine ⟨a, ws, e1, .inl ?_, ek, RpL.mono .rfl' (frzAt_sub fn) ds _ rr⟩
      rw [frzAt_in (by rw [e2]; simp)]; exact q
  obtain ⟨r', st⟩ := r.drop1 (t' := .leaf t.d) (F' := frzAt g.F g.H (g.ow i)) (as := []) hs hv (frzAt_sub fn) (fun a h => by
    by_cases z : a ∈ g.ow i
    · exact .inr ⟨z, by simp⟩
    · rw [frzAt_out z] at h; exact .inl h) (frzAt_H r.sub) (fun a h => by cases h) .nil ⟨rp, rfl⟩
  exact ⟨_, r', st, rfl, rp⟩
/-- .. its rows alone -/
theorem RT.frzKids (r : Rel Γ κ H0 σ s g) {i : Nat} {dss : List (List D)} {v : V} (hs : getS s i = some (.own2 dss)) (hv : σ[i]? = some (some v)) (rt : RT Γ κ g.F g.H v (.own2 dss) (g.ow i)) :
    ∃ g', Rel Γ κ H0 σ (setS s i (.own (dss.map .lst))) g' ∧ StepE κ g g' ∧ g'.H = g.H ∧ RT Γ κ g'.F g'.H v (.own (dss.map .lst)) (g'.ow i) := by
  obtain ⟨a, bs, e1, e2, q, rr⟩ := rt
  have nd := r.nd i
  rw [e2] at nd
  have nd' := List.nodup_cons.mp nd
  have fn : ∀ b ∈ bs, g.F b = none := fun b hb => (r.fr i b (by rw [e2]; exact List.mem_cons_of_mem _ hb)).1
  have rp : RT Γ κ (frzAt g.F g.H bs) g.H v (.own (dss.map .lst)) [a] := ⟨a, bs.map V.ref, e1, rfl, q, frzRowsF rr fn nd'.2 _ (frzAt_sub fn) fun b hb => frzAt_in hb⟩
  obtain ⟨r', st⟩ := r.drop1 (t' := .own (dss.map .lst)) (F' := frzAt g.F g.H bs) (as := [a]) hs hv (frzAt_sub fn) (fun x h => by
    by_cases z : x ∈ bs
    · refine .inr ⟨by rw [e2]; exact List.mem_cons_of_mem _ z, fun y => nd'.1 ?_⟩
      rw [← List.mem_singleton.mp y]; exact z
    · rw [frzAt_out z] at h; exact .inl h) (frzAt_H r.sub) (fun x h => by rw [e2, List.mem_singleton.mp h]; simp) (by simp) rp
  refine ⟨_, r', st, rfl, ?_⟩
  show RT Γ κ _ g.H v _ (if i = i then [a] else g.ow i)
  rw [if_pos rfl]; exact rp
end
end Ev

set_option maxHeartbeats 4000000
/-! a tuple times any small int -/
namespace EZ
open PySem PySem.Spec PyProof.Rows L2
abbrev tob (its : Array Value) (n : Nat) (dd : Option Addr) (sl : Array (Option Value)) : Obj := { cls := .type "tuple", dict := dd, data := .seq its n, slots := sl }
theorem tmul_same (l : Addr) (its : Array Value) (n : Nat) (dd : Option Addr) (sl : Array (Option Value)) (x : Int) (u : Tok) (h0 : (decide (x < -(2 ^ 63)) || decide (x ≥ 2 ^ 63)) = false) (h1 : (its.isEmpty || x == 1) = true) :
    Meets (Builtin.«tuple.__mul__» ⟨[.ref l, .int x u], []⟩) (fun _ R s => s.heap.get? l = some (tob its n dd sl) ∧ R (.ok (.ret (Value.ref l))) s) :=
  .of_wp fun prog w A R s h => by
    obtain ⟨hp, g, d, tk, os⟩ := s
    obtain ⟨hl, h⟩ := h
    have f1 := AutoSeq1.idx_int
    wp_walk using wpAny_loadPart' hl
    repeat (first
      | (refine wpAny_ite_false (by rw [h0]; simp) ?_; wp_walk using wpAny_loadPart' hl)
      | (refine wpAny_ite_true (by rw [h1]) ?_; wp_walk using wpAny_loadPart' hl))
    exact ⟨_, rfl, h⟩
theorem tmul_none (l : Addr) (its : Array Value) (n : Nat) (dd : Option Addr) (sl : Array (Option Value)) (x : Int) (u : Tok) (h0 : (decide (x < -(2 ^ 63)) || decide (x ≥ 2 ^ 63)) = false) (h1 : (its.isEmpty || x == 1) = false) (h2 : (decide (x ≤ 0) || its.isEmpty) = true) :
    Meets (Builtin.«tuple.__mul__» ⟨[.ref l, .int x u], []⟩) (fun _ R s => s.heap.get? l = some (tob its n dd sl) ∧ R (.ok (.ret (Value.ref s.heap.objs.size))) { s with heap := s.heap.push { cls := Value.type "tuple", data := Data.seq #[] }, toks := s.toks }) :=
  .of_wp fun prog w A R s h => by
    obtain ⟨hp, g, d, tk, os⟩ := s
    obtain ⟨hl, h⟩ := h
    have f1 := AutoSeq1.idx_int
    wp_walk using wpAny_loadPart' hl
    repeat (first
      | (refine wpAny_ite_false (by rw [h0]; simp) ?_; wp_walk using wpAny_loadPart' hl)
      | (refine wpAny_ite_false (by rw [h1]; simp) ?_; wp_walk using wpAny_loadPart' hl)
      | (refine wpAny_ite_true (by rw [h2]) ?_; wp_walk using wpAny_loadPart' hl))
    exact ⟨_, rfl, h⟩
/-- a tuple times an int: the tuple itself, none, or a new one -/
def rRepA (K : PySem.W.Frag) : R2 := fun x y H Q => ∃ l k xs, x = .ref l ∧ y = .int k ∧ SqT K H l xs ∧ -1000 ≤ k ∧ k ≤ 1000 ∧ xs.length ≤ 1000 ∧
  ((xs = [] ∨ k = 1) → Q (.ref l) H) ∧ (¬ (xs = [] ∨ k = 1) → ∀ p, H p = none → Q (.ref p) (upd H p (.tup (List.replicate k.toNat xs).flatten)))
section
variable {X : Cx}
theorem op_repA : OpR X (binaryOp .Mult) (rRepA X.K) := by
  intro pins s σ H x y v u Q I rx ry h
  by_cases hk : ∃ k, y = .int k ∧ 2 ≤ k
  · obtain ⟨l, k, xs, rfl, rfl, hT, _, k1, xl, q1, q2⟩ := h
    obtain ⟨k', e, k2⟩ := hk
    cases e
    by_cases hx : xs = []
    · cases rx
      obtain ⟨t, rfl⟩ := ry
      obtain ⟨its, r, ⟨⟨cls, dd, data, sl⟩, ho, hc, n, hd⟩, hs⟩ := I.tuple hT
      simp only at hc hd
      subst hc hd
      subst hx
      have e0 : its = [] := List.eq_nil_of_length_eq_zero r.length.symm
      refine wpAny_binaryOp_repeat_ref (T := "tuple") (U := "int") (by decide) ⟨_, ho, rfl⟩ (fun s' => typeIs_int s' k t) noFill_tuple_mul F.fills_int_mul F.slot_int_rmul repeat_tuple F.slot_int_index.lookup (call_meets F.slot_int_rmul (typeIs_int s k t) F.entry_int_rmul (F.args_int_rmul_2 _ _) (int_rmul_tuple k t l its.toArray n dd sl) ⟨ho, rfl, ⟨_, ho, rfl⟩, call_meets F.slot_tuple_mul ⟨_, ho, rfl⟩ F.entry_tuple_mul (F.args_tuple_mul_2 _ _) (tmul_same l its.toArray n dd sl k t (by rw [decide_eq_false (by omega), decide_eq_false (by omega)]; rfl) (by rw [e0]; rfl)) ⟨ho, ?_⟩⟩)
      exact ⟨.ref l, H, I, rfl, q1 (.inl rfl)⟩
    · exact op_repT pins s σ H _ _ v u Q I rx ry ⟨l, k, xs, rfl, rfl, hT, hx, k2, k1, xl, q2 (fun z => z.elim hx fun z => by omega)⟩
  · obtain ⟨l, k, xs, rfl, rfl, hT, k0, k1, xl, q1, q2⟩ := h
    have k2 : k ≤ 1 := Int.not_lt.mp fun z => hk ⟨k, rfl, by omega⟩
    cases rx
    obtain ⟨t, rfl⟩ := ry
    obtain ⟨its, r, ⟨⟨cls, dd, data, sl⟩, ho, hc, n, hd⟩, hs⟩ := I.tuple hT
    simp only at hc hd
    subst hc hd
    have hh : (decide (k < -(2 ^ 63)) || decide (k ≥ 2 ^ 63)) = false := by rw [decide_eq_false (by omega), decide_eq_false (by omega)]; rfl
    by_cases hx : xs = [] ∨ k = 1
    · have hy : (its.toArray.isEmpty || k == 1) = true := by
        rcases hx with e | e
        · subst e
          have e0 : its = [] := List.eq_nil_of_length_eq_zero r.length.symm
          rw [e0]; rfl
        · rw [e]; simp
      refine wpAny_binaryOp_repeat_ref (T := "tuple") (U := "int") (by decide) ⟨_, ho, rfl⟩ (fun s' => typeIs_int s' k t) noFill_tuple_mul F.fills_int_mul F.slot_int_rmul repeat_tuple F.slot_int_index.lookup (call_meets F.slot_int_rmul (typeIs_int s k t) F.entry_int_rmul (F.args_int_rmul_2 _ _) (int_rmul_tuple k t l its.toArray n dd sl) ⟨ho, rfl, ⟨_, ho, rfl⟩, call_meets F.slot_tuple_mul ⟨_, ho, rfl⟩ F.entry_tuple_mul (F.args_tuple_mul_2 _ _) (tmul_same l its.toArray n dd sl k t hh hy) ⟨ho, ?_⟩⟩)
      exact ⟨.ref l, H, I, rfl, q1 hx⟩
    · have hne : its ≠ [] := fun e => hx (.inl (List.eq_nil_of_length_eq_zero (by rw [r.length, e]; rfl)))
      have hz : k ≤ 0 := by
        have : k ≠ 1 := fun e => hx (.inr e)
        omega
      have hy : (its.toArray.isEmpty || k == 1) = false := by
        cases its with
        | nil => exact absurd rfl hne
        | cons a b =>
          have : k ≠ 1 := fun e => hx (.inr e)
          simp [this]
      refine wpAny_binaryOp_repeat_ref (T := "tuple") (U := "int") (by decide) ⟨_, ho, rfl⟩ (fun s' => typeIs_int s' k t) noFill_tuple_mul F.fills_int_mul F.slot_int_rmul repeat_tuple F.slot_int_index.lookup (call_meets F.slot_int_rmul (typeIs_int s k t) F.entry_int_rmul (F.args_int_rmul_2 _ _) (int_rmul_tuple k t l its.toArray n dd sl) ⟨ho, rfl, ⟨_, ho, rfl⟩, call_meets F.slot_tuple_mul ⟨_, ho, rfl⟩ F.entry_tuple_mul (F.args_tuple_mul_2 _ _) (tmul_none l its.toArray n dd sl k t hh hy (by rw [decide_eq_true hz]; rfl)) ⟨ho, ?_⟩⟩)
      have e1 : k.toNat = 0 := by omega
      have q3 := q2 hx _ (I.hok.fresh (Nat.le_refl s.heap.objs.size))
      rw [e1] at q3
      refine ⟨.ref s.heap.objs.size, _, I.laid (t' := s.toks) (o := .tup []) (fun b ob q => Heap.get?_push_of_some _ q) (Nat.le_refl _) ?_, rfl, q3⟩
      exact ⟨by simp, [], .nil, IsTup.new _ _⟩
end
end EZ

/-! operators by values -/
namespace Ev
open PySem PySem.Spec PyProof.Rows L2
theorem big_eq : big = sizeLine := by rw [sizeLine_eq]; rfl

/-- what an operation hands on -/
def Give (Γ : Gam) (κ : Option Addr) (H0 : Hp) (σ : L2.St) (s : St) (g : Gh) (b : B) (Q : VK) : Prop := ∀ g', Rel Γ κ H0 σ s g' → StepE κ g g' → ∀ v, RB Γ κ g.H g' v b → Q v g'.H
section
variable {Γ : Gam} {κ : Option Addr} {H0 : Hp} {σ : L2.St} {s : St} {g : Gh} {Q : VK}
theorem Give.val {v : V} {d : D} (h : Give Γ κ H0 σ s g (.val d) Q) (r : Rel Γ κ H0 σ s g) (q : Rp Γ κ g.F v d) : Q v g.H := h g r (StepE.refl _ _) v q
theorem Give.new {vs : List V} {ds : List D} (h : Give Γ κ H0 σ s g (.new ds) Q) (r : Rel Γ κ H0 σ s g) (q : RpL Γ κ g.F vs ds) {p : Addr} (hp : g.H p = none) : Q (.ref p) (upd g.H p (.lst vs)) := by
  obtain ⟨r1, st, l⟩ := r.laid hp (.lst vs)
  exact h _ r1 st (.ref p) ⟨p, vs, rfl, upd_same, q, hp, l⟩
theorem Give.tup {vs : List V} {ds : List D} (h : Give Γ κ H0 σ s g (.val (.tup ds)) Q) (r : Rel Γ κ H0 σ s g) (q : RpL Γ κ g.F vs ds) {p : Addr} (hp : g.H p = none) : Q (.ref p) (upd g.H p (.tup vs)) := by
  obtain ⟨r1, st, sb⟩ := r.laidF hp (.tup vs)
  refine h _ r1 st (.ref p) ?_
  show Rp Γ κ (upd g.F p (.tup vs)) (.ref p) (.tup ds)
  unfold Rp
  exact ⟨p, vs, rfl, upd_same, RpL.mono .rfl' sb ds vs q⟩
theorem Pk.int {v : V} {i : Int} (h : Pk Γ κ g v (.int i)) : v = .int i := by
  have h' : Rp Γ κ g.F v (.int i) := h
  unfold Rp at h'; exact h'
theorem Pk.str {v : V} {i : Str} (h : Pk Γ κ g v (.str i)) : v = .str i := by
  have h' : Rp Γ κ g.F v (.str i) := h
  unfold Rp at h'; exact h'
theorem Pk.bl {v : V} {i : Bool} (h : Pk Γ κ g v (.bl i)) : v = .bl i := by
  have h' : Rp Γ κ g.F v (.bl i) := h
  unfold Rp at h'; exact h'
theorem Pk.non {v : V} (h : Pk Γ κ g v .non) : v = .non := by
  have h' : Rp Γ κ g.F v .non := h
  unfold Rp at h'; exact h'
theorem rp_int {F : Hp} (i : Int) : Rp Γ κ F (.int i) (.int i) := by unfold Rp; rfl
theorem rp_bl {F : Hp} (i : Bool) : Rp Γ κ F (.bl i) (.bl i) := by unfold Rp; rfl
theorem rp_str {F : Hp} (i : Str) : Rp Γ κ F (.str i) (.str i) := by unfold Rp; rfl
theorem rp_non {F : Hp} : Rp Γ κ F .non .non := by unfold Rp; rfl
theorem Pk.tupF {v : V} {ds : List D} (h : Pk Γ κ g v (.tup ds)) : Rp Γ κ g.F v (.tup ds) := h
end

/-- a two-place operation on values -/
def rBin (Γ : Gam) (f : D → D → Option B) : R2 := fun x y H Q => ∃ κ H0 σ s g d e b, g.H = H ∧ Rel Γ κ H0 σ s g ∧ Pk Γ κ g x d ∧ Pk Γ κ g y e ∧ f d e = some b ∧ Give Γ κ H0 σ s g b Q
/-- a list * k -/
theorem mulOk_ok {i j : Int} (h : mulOk i j = true) : IntMulOk i j := by
  unfold mulOk at h
  simp only [Bool.or_eq_true, decide_eq_true_eq] at h
  have two : (2 : Int) ^ 64 = 18446744073709551616 := by decide
  have two' : (2 : Nat) ^ 64 = 18446744073709551616 := by decide
  rcases h with (h | h) | h
  · rw [two'] at h
    exact .of_left (intBits_le_64 (by rw [two]; omega) (by rw [two]; omega))
  · rw [two'] at h
    exact .of_right (intBits_le_64 (by rw [two]; omega) (by rw [two]; omega))
  · exact CMulW.ok h
section
variable {X : Cx} {Γ : Gam}
theorem op_mulA : OpR X (binaryOp .Mult) (rI (fun i j => IntMulOk i j) fun i j => .int (i * j)) := opI fun _ _ _ _ _ _ _ hc q => mul_int q hc
theorem op_fdivA : OpR X (binaryOp .FloorDiv) (rI (fun _ j => divOk j = true) fun i j => .int (i / j)) := opI fun i j _ _ _ _ _ hc q => by
  unfold divOk at hc
  simp only [Bool.and_eq_true, Bool.or_eq_true, decide_eq_true_eq] at hc
  obtain ⟨h1, h2⟩ := hc
  refine floordiv_int (by omega) (by rw [Int.fdiv_eq_ediv_of_nonneg i (by omega)]; exact q) (.inl ?_)
  rcases h2 with h2 | h2
  · exact PyProof.noPylong_small (by omega)
  · exact PyProof.noPylong_of_log2 h2
def opOf : Op → Operator
  | .add => .Add | .sub => .Sub | .mul => .Mult | .fdiv => .FloorDiv | .mod => .Mod | .pow => .Pow | .shl => .LShift | .shr => .RShift | .band => .BitAnd | .bor => .BitOr
theorem bin_ok (hK : X.K = Γ.K) (o : Op) : OpR X (binaryOp (opOf o)) (rBin Γ (binop o)) := by
  intro pins s σ H x y v u Q I rx ry h
  obtain ⟨κ, H0, σ', s', g, d, e, b, rfl, r, hx, hy, hf, hQ⟩ := h
  have two : ∀ {i j : Int} {c : Prop}, True := fun {_ _ _} => trivial
  cases o with
  | add =>
    cases d with
    | int i =>
      cases e with
      | int j =>
        simp only [binop, Option.some.injEq] at hf
        subst hf
        exact op_add pins s σ g.H x y v u Q I rx ry ⟨i, j, hx.int, hy.int, hQ.val r (rp_int _)⟩
      | _ => simp [binop] at hf
    | str i =>
      cases e with
      | str j =>
        simp only [binop] at hf
        split at hf
        · rename_i hl
          simp only [Option.some.injEq] at hf
          subst hf
          exact op_add_str pins s σ g.H x y v u Q I rx ry ⟨i, j, hx.str, hy.str, by rw [← big_eq]; exact hl, hQ.val r (rp_str _)⟩
        · cases hf
      | _ => simp [binop] at hf
    | tup xs =>
      cases e with
      | tup ys =>
        simp only [binop] at hf
        split at hf
        · rename_i hl
          simp only [Option.some.injEq] at hf
          subst hf
          obtain ⟨a, vs, ea, qa, ta⟩ := hx.tup r
          obtain ⟨c, ws, ec, qc, tc⟩ := hy.tup r
          refine op_catA pins s σ g.H x y v u Q I rx ry ⟨a, c, vs, ws, ea, ec, by rw [hK]; exact qa, by rw [hK]; exact qc, ?_, fun e0 => ?_, fun _ e0 => ?_, fun _ _ p hp => ?_⟩
          · rw [ta.length, tc.length, ← big_eq]; exact hl
          · have e1 : xs = [] := List.eq_nil_of_length_eq_zero (by rw [← ta.length, e0]; rfl)
            subst e1
            rw [← ec]
            exact hQ.val r hy.tupF
          · have e1 : ys = [] := List.eq_nil_of_length_eq_zero (by rw [← tc.length, e0]; rfl)
            subst e1
            rw [← ea]
            rw [List.append_nil] at hQ
            exact hQ.val r hx.tupF
          · exact hQ.tup r (ta.append tc) hp
        · cases hf
      | _ => simp [binop] at hf
    | lst xs =>
      cases e with
      | lst ys =>
        simp only [binop] at hf
        split at hf
        · rename_i hl
          simp only [Option.some.injEq] at hf
          subst hf
          obtain ⟨a, vs, ea, qa, ta⟩ := hx.lst
          obtain ⟨c, ws, ec, qc, tc⟩ := hy.lst
          exact op_cat pins s σ g.H x y v u Q I rx ry ⟨a, c, vs, ws, ea, ec, qa, qc, by rw [ta.length, tc.length, ← big_eq]; exact hl, fun p hp => hQ.new r (ta.append tc) hp⟩
        · cases hf
      | _ => simp [binop] at hf
    | _ => simp [binop] at hf
  | sub =>
    cases d with
    | int i =>
      cases e with
      | int j =>
        simp only [binop, Option.some.injEq] at hf
        subst hf
        exact op_sub pins s σ g.H x y v u Q I rx ry ⟨i, j, hx.int, hy.int, hQ.val r (rp_int _)⟩
      | _ => simp [binop] at hf
    | _ => simp [binop] at hf
  | mul =>
    cases d with
    | int i =>
      cases e with
      | int j =>
        simp only [binop] at hf
        split at hf
        · rename_i hm
          simp only [Option.some.injEq] at hf
          subst hf
          exact op_mulA pins s σ g.H x y v u Q I rx ry ⟨i, j, hx.int, hy.int, mulOk_ok hm, hQ.val r (rp_int _)⟩
        · cases hf
      | _ => simp [binop] at hf
    | lst xs =>
      cases e with
      | int k =>
        simp only [binop] at hf
        split at hf
        · rename_i hm
          simp only [Option.some.injEq] at hf
          subst hf
          obtain ⟨a, vs, ea, qa, ta⟩ := hx.lst
          exact op_rep pins s σ g.H x y v u Q I rx ry ⟨a, k, vs, ea, hy.int, qa, hm.2.2, hm.2.1, by rw [ta.length, ← big_eq]; exact hm.1, fun p hp => hQ.new r (ta.rep k.toNat) hp⟩
        · cases hf
      | _ => simp [binop] at hf
    | tup xs =>
      cases e with
      | int k =>
        simp only [binop] at hf
        split at hf
        · rename_i hm
          simp only [Option.some.injEq] at hf
          subst hf
          obtain ⟨a, vs, ea, qa, ta⟩ := hx.tup r
          refine EZ.op_repA pins s σ g.H x y v u Q I rx ry ⟨a, k, vs, ea, hy.int, by rw [hK]; exact qa, hm.2.1, hm.2.2, by rw [ta.length]; exact hm.1, fun e0 => ?_, fun _ p hp => hQ.tup r (ta.rep k.toNat) hp⟩
          have e1 : rep k.toNat xs = xs := by
            rcases e0 with e0 | e0
            · have e1 : xs = [] := List.eq_nil_of_length_eq_zero (by rw [← ta.length, e0]; rfl)
              rw [e1]; unfold rep; simp
            · rw [e0]; unfold rep; simp
          rw [e1] at hQ
          rw [← ea]
          exact hQ.val r hx.tupF
        · cases hf
      | _ => simp [binop] at hf
    | _ => simp [binop] at hf
  | fdiv =>
    cases d with
    | int i =>
      cases e with
      | int j =>
        simp only [binop] at hf
        split at hf
        · rename_i hm
          simp only [Option.some.injEq] at hf
          subst hf
          exact op_fdivA pins s σ g.H x y v u Q I rx ry ⟨i, j, hx.int, hy.int, hm, hQ.val r (rp_int _)⟩
        · cases hf
      | _ => simp [binop] at hf
    | _ => simp [binop] at hf
  | mod =>
    cases d with
    | int i =>
      cases e with
      | int j =>
        simp only [binop] at hf
        split at hf
        · rename_i hm
          simp only [Option.some.injEq] at hf
          subst hf
          exact op_mod pins s σ g.H x y v u Q I rx ry ⟨i, j, hx.int, hy.int, hm, hQ.val r (rp_int _)⟩
        · cases hf
      | _ => simp [binop] at hf
    | _ => simp [binop] at hf
  | pow =>
    cases d with
    | int i =>
      cases e with
      | int j =>
        simp only [binop] at hf
        split at hf
        · rename_i hm
          simp only [Option.some.injEq] at hf
          subst hf
          exact op_pow pins s σ g.H x y v u Q I rx ry ⟨i, j, hx.int, hy.int, hm, hQ.val r (rp_int _)⟩
        · cases hf
      | _ => simp [binop] at hf
    | _ => simp [binop] at hf
  | shl => simp [binop] at hf
  | shr => simp [binop] at hf
  | band => simp [binop] at hf
  | bor => simp [binop] at hf

/-! ### comparisons -/
mutual
def py : D → PyData
  | .non => .none
  | .bl b => .bool b
  | .int i => .int i
  | .str s => .str s
  | .tup xs => .tuple (pys xs)
  | .lst xs => .list (pys xs)
  | .fn _ => .none
  | .cls _ => .none
  | .cup => .none
  | .ro _ => .none
  | .dct _ _ _ => .none
def pys : List D → List PyData
  | [] => []
  | d :: ds => py d :: pys ds
end
mutual
theorem py_ok : ∀ (n : Nat) (d : D), okD n d = true → (py d).canLay0 = true ∧ (py d).depth ≤ n
  | n, .non, _ => by simp [py, PyData.canLay0, PyData.depth]
  | n, .bl _, _ => by simp [py, PyData.canLay0, PyData.depth]
  | n, .int _, _ => by simp [py, PyData.canLay0, PyData.depth]
  | n, .str x, h => by
    have h' : PyData.strOk x = true := by simpa [okD] using h
    simp [py, PyData.canLay0, PyData.depth, h']
  | 0, .tup xs, h => by simp [okD] at h
  | n + 1, .tup xs, h => by
    have := pys_ok n xs (by simpa [okD] using h)
    simp only [py, PyData.canLay0, PyData.depth]
    exact ⟨this.1, Nat.succ_le_succ this.2⟩
  | 0, .lst xs, h => by simp [okD] at h
  | n + 1, .lst xs, h => by
    have := pys_ok n xs (by simpa [okD] using h)
    simp only [py, PyData.canLay0, PyData.depth]
    exact ⟨this.1, Nat.succ_le_succ this.2⟩
  | n, .fn _, h => by simp [okD] at h
  | n, .cls _, h => by simp [okD] at h
  | n, .cup, h => by simp [okD] at h
  | n, .ro _, h => by simp [okD] at h
  | n, .dct _ _ _, h => by simp [okD] at h
theorem pys_ok : ∀ (n : Nat) (ds : List D), okDs n ds = true → PyData.canLayAll0 (pys ds) = true ∧ PyData.depthAll (pys ds) ≤ n
  | n, [], _ => by simp [pys, PyData.canLayAll0, PyData.depthAll]
  | n, d :: ds, h => by
    have h' : okD n d = true ∧ okDs n ds = true := by simpa [okDs] using h
    have h1 := py_ok n d h'.1
    have h2 := pys_ok n ds h'.2
    simp only [pys, PyData.canLayAll0, PyData.depthAll, h1.1, h2.1, Bool.and_self, true_and]
    omega
end
theorem shaped_ok {d : D} (h : okD 64 d = true) : SeqAt.shaped (py d) = true := by
  have := py_ok 64 d h
  unfold SeqAt.shaped
  rw [Bool.and_eq_true]
  exact ⟨this.1, decide_eq_true this.2⟩
mutual
theorem py_eqv : ∀ (n : Nat) (d e : D), okD n d = true → okD n e = true → PyData.eqv (py d) (py e) = eqD d e
  | n, .non, e, _, h => by cases e <;> first | rfl | simp [okD] at h
  | n, .bl _, e, _, h => by cases e <;> first | rfl | simp [okD] at h
  | n, .int _, e, _, h => by cases e <;> first | rfl | simp [okD] at h
  | n, .str _, e, _, h => by cases e <;> first | rfl | simp [okD] at h
  | 0, .tup xs, e, h, _ => by simp [okD] at h
  | n + 1, .tup xs, e, h, h' => by
    cases e with
    | tup ys =>
      show PyData.eqvAll (pys xs) (pys ys) = eqDs xs ys
      exact pys_eqv n xs ys (by simpa [okD] using h) (by simpa [okD] using h')
    | _ => first | rfl | simp [okD] at h'
  | 0, .lst xs, e, h, _ => by simp [okD] at h
  | n + 1, .lst xs, e, h, h' => by
    cases e with
    | lst ys =>
      show PyData.eqvAll (pys xs) (pys ys) = eqDs xs ys
      exact pys_eqv n xs ys (by simpa [okD] using h) (by simpa [okD] using h')
    | _ => first | rfl | simp [okD] at h'
  | n, .fn _, _, h, _ => by simp [okD] at h
  | n, .cls _, _, h, _ => by simp [okD] at h
  | n, .cup, _, h, _ => by simp [okD] at h
  | n, .ro _, _, h, _ => by simp [okD] at h
  | n, .dct _ _ _, _, h, _ => by simp [okD] at h
theorem pys_eqv : ∀ (n : Nat) (ds es : List D), okDs n ds = true → okDs n es = true → PyData.eqvAll (pys ds) (pys es) = eqDs ds es
  | n, [], [], _, _ => rfl
  | n, [], _ :: _, _, _ => rfl
  | n, _ :: _, [], _, _ => rfl
  | n, d :: ds, e :: es, h, h' => by
    have h1 : okD n d = true ∧ okDs n ds = true := by simpa [okDs] using h
    have h2 : okD n e = true ∧ okDs n es = true := by simpa [okDs] using h'
    show (PyData.eqv (py d) (py e) && PyData.eqvAll (pys ds) (pys es)) = (eqD d e && eqDs ds es)
    rw [py_eqv n d e h1.1 h2.1, pys_eqv n ds es h1.2 h2.2]
end
section
variable {κ : Option Addr} {F H : Hp}
mutual
theorem Rp.dp (sb : Sub F H) : ∀ (n : Nat) (d : D) (v : V), okD n d = true → Rp Γ κ F v d → Dp Γ.K H v (py d)
  | _, .non, v, _, h => by unfold Rp at h; subst h; exact .non
  | _, .bl _, v, _, h => by unfold Rp at h; subst h; exact .bl _
  | _, .int _, v, _, h => by unfold Rp at h; subst h; exact .int _
  | _, .str _, v, _, h => by unfold Rp at h; subst h; exact .str _
  | 0, .tup ds, v, k, h => by simp [okD] at k
  | n + 1, .tup ds, v, k, h => by
    unfold Rp at h
    obtain ⟨a, vs, e, q, t⟩ := h
    subst e
    exact .tup (.inl (.inl (sb a _ q))) (RpL.dp sb n ds vs (by simpa [okD] using k) t)
  | 0, .lst ds, v, k, h => by simp [okD] at k
  | n + 1, .lst ds, v, k, h => by
    unfold Rp at h
    obtain ⟨a, vs, e, q, t⟩ := h
    subst e
    exact .lst (.of (sb a _ q)) (RpL.dp sb n ds vs (by simpa [okD] using k) t)
  | _, .fn _, v, k, _ => by simp [okD] at k
  | _, .cls _, v, k, _ => by simp [okD] at k
  | _, .cup, v, k, _ => by simp [okD] at k
  | _, .ro _, v, k, _ => by simp [okD] at k
  | _, .dct _ _ _, v, k, _ => by simp [okD] at k
theorem RpL.dp (sb : Sub F H) : ∀ (n : Nat) (ds : List D) (vs : List V), okDs n ds = true → RpL Γ κ F vs ds → DpAll Γ.K H vs (pys ds)
  | _, [], vs, _, h => by rw [h.inv0]; exact .nil
  | n, d :: ds, vs, k, h => by
    obtain ⟨v, r, e, q, t⟩ := h.inv
    have k' : okD n d = true ∧ okDs n ds = true := by simpa [okDs] using k
    rw [e]
    exact .cons (Rp.dp sb n d v k'.1 q) (RpL.dp sb n ds r k'.2 t)
end
end
theorem Pk.dp {κ : Option Addr} {H0 : Hp} {σ : L2.St} {s : St} {g : Gh} (r : Rel Γ κ H0 σ s g) {v : V} {d : D} (h : Pk Γ κ g v d) (k : okD 64 d = true) : Dp Γ.K g.H v (py d) := by
  cases d with
  | lst ds =>
    obtain ⟨a, vs, e, q, t⟩ := h.lst
    subst e
    exact .lst (.of q) (RpL.dp r.sub 63 ds vs (by simpa [okD] using k) t)
  | dct l ks ds => simp [okD] at k
  | _ => exact Rp.dp (κ := κ) r.sub 64 _ v k h

def cpOf : Cp → CmpOp
  | .eq => .Eq | .ne => .NotEq | .lt => .Lt | .le => .LtE | .gt => .Gt | .ge => .GtE | .is => .Is | .isn => .IsNot | .isin => .In | .notin => .NotIn
def rCmp (Γ : Gam) (f : D → D → Option Bool) : R2 := fun x y H Q => ∃ κ H0 σ s g d e b, g.H = H ∧ Rel Γ κ H0 σ s g ∧ Pk Γ κ g x d ∧ Pk Γ κ g y e ∧ f d e = some b ∧ Q (.bl b) H
theorem lexLt_eq : ∀ (xs ys : List Int), HT.lexLt xs ys = lexLt xs ys
  | [], [] => rfl
  | [], _ :: _ => rfl
  | _ :: _, [] => rfl
  | x :: xs, y :: ys => by
    show (if x = y then HT.lexLt xs ys else decide (x < y)) = if x = y then lexLt xs ys else decide (x < y)
    rw [lexLt_eq xs ys]
mutual
theorem okD_mono : ∀ {m n : Nat} (_ : m ≤ n) (d : D), okD m d = true → okD n d = true
  | _, _, _, .non, _ => by simp [okD]
  | _, _, _, .bl _, _ => by simp [okD]
  | _, _, _, .int _, _ => by simp [okD]
  | _, _, _, .str x, h => by simpa [okD] using h
  | 0, _, _, .tup xs, h => by simp [okD] at h
  | m + 1, 0, l, .tup xs, h => by omega
  | m + 1, n + 1, l, .tup xs, h => by
    have := okDs_mono (Nat.le_of_succ_le_succ l) xs (by simpa [okD] using h)
    simpa [okD] using this
  | 0, _, _, .lst xs, h => by simp [okD] at h
  | m + 1, 0, l, .lst xs, h => by omega
  | m + 1, n + 1, l, .lst xs, h => by
    have := okDs_mono (Nat.le_of_succ_le_succ l) xs (by simpa [okD] using h)
    simpa [okD] using this
  | _, _, _, .fn _, h => by simp [okD] at h
  | _, _, _, .cls _, h => by simp [okD] at h
  | _, _, _, .cup, h => by simp [okD] at h
  | _, _, _, .ro _, h => by simp [okD] at h
theorem okDs_mono : ∀ {m n : Nat} (_ : m ≤ n) (ds : List D), okDs m ds = true → okDs n ds = true
  | _, _, _, [], _ => by simp [okDs]
  | m, n, l, d :: ds, h => by
    have h' : okD m d = true ∧ okDs m ds = true := by simpa [okDs] using h
    simp [okDs, okD_mono l d h'.1, okDs_mono l ds h'.2]
end
theorem isin_eq {x : D} (hx : okD 64 x = true) : ∀ {n : Nat} (_ : n ≤ 64) (ys : List D), okDs n ys = true → ((pys ys).any fun z => PyData.eqv z (py x)) = isinD x ys
  | n, hn, [], _ => rfl
  | n, hn, y :: ys, h => by
    have h' : okD n y = true ∧ okDs n ys = true := by simpa [okDs] using h
    have mono : ∀ (d : D), okD n d = true → okD 64 d = true := fun d hd => okD_mono hn d hd
    show (PyData.eqv (py y) (py x) || (pys ys).any _) = (eqD y x || ys.any _)
    rw [py_eqv 64 y x (mono y h'.1) hx, isin_eq hx hn ys h'.2]
    rfl

theorem cmp_ok (hK : X.K = Γ.K) (hu : X.A.units + 200 < cLine) (o : Cp) : OpR X (compareOp (cpOf o)) (rCmp Γ (cmpop o)) := by
  intro pins s σ H x y v u Q I rx ry h
  obtain ⟨κ, H0, σ', s', g, d, e, b, rfl, r, hx, hy, hf, hQ⟩ := h
  have reads : ∀ {z : V} {w : Value} {c : D}, RelV z w → Pk Γ κ g z c → okD 64 c = true → ∃ as, Reads s.heap w (py c) as := fun {z w c} rz hz k => by
    have := hz.dp r k
    rw [← hK] at this
    exact Dp.reads I (py c) z w this rz
  have items : ∀ {c : D} {cs : List D}, items? c = some cs → (py c = .list (pys cs) ∨ py c = .tuple (pys cs)) ∧ ∀ n, okD (n + 1) c = true → okDs n cs = true := fun {c cs} q => by
    cases c with
    | tup xs =>
      simp only [items?, Option.some.injEq] at q
      subst q
      exact ⟨.inr rfl, fun n k => by simpa [okD] using k⟩
    | lst xs =>
      simp only [items?, Option.some.injEq] at q
      subst q
      exact ⟨.inl rfl, fun n k => by simpa [okD] using k⟩
    | _ => simp [items?] at q
  cases o with
  | eq =>
    simp only [cmpop] at hf
    split at hf
    · rename_i hk
      simp only [Option.some.injEq] at hf
      have hk' : okD 64 d = true ∧ okD 64 e = true := by simpa [eqOk] using hk
      refine op_eqD (X := X) (by omega) pins s σ g.H x y v u Q I rx ry ⟨py d, py e, by rw [hK]; exact hx.dp r hk'.1, by rw [hK]; exact hy.dp r hk'.2, shaped_ok hk'.1, shaped_ok hk'.2, ?_⟩
      rw [py_eqv 64 d e hk'.1 hk'.2, hf]; exact hQ
    · cases hf
  | ne =>
    simp only [cmpop] at hf
    split at hf
    · rename_i hk
      simp only [Option.some.injEq] at hf
      have hk' : okD 64 d = true ∧ okD 64 e = true := by simpa [eqOk] using hk
      refine op_neD (X := X) (by omega) pins s σ g.H x y v u Q I rx ry ⟨py d, py e, by rw [hK]; exact hx.dp r hk'.1, by rw [hK]; exact hy.dp r hk'.2, shaped_ok hk'.1, shaped_ok hk'.2, ?_⟩
      rw [py_eqv 64 d e hk'.1 hk'.2, hf]; exact hQ
    · cases hf
  | lt =>
    cases d with
    | int i =>
      cases e with
      | int j =>
        simp only [cmpop, Option.some.injEq] at hf
        subst hf
        exact op_lt pins s σ g.H x y v u Q I rx ry ⟨i, j, hx.int, hy.int, hQ⟩
      | _ => simp [cmpop] at hf
    | tup xs =>
      cases e with
      | tup ys =>
        simp only [cmpop] at hf
        split at hf
        · rename_i ns ms q1 q2
          simp only [Option.some.injEq] at hf
          subst hf
          obtain ⟨a, vs, ea, qa, ta⟩ := hx.tup r
          obtain ⟨c, ws, ec, qc, tc⟩ := hy.tup r
          rw [rpl_ints q1 ta] at qa
          rw [rpl_ints q2 tc] at qc
          refine op_ltT (X := X) (by omega) pins s σ g.H x y v u Q I rx ry ⟨a, c, ns, ms, ea, ec, by rw [hK]; exact qa, by rw [hK]; exact qc, ?_⟩
          rw [lexLt_eq]; exact hQ
        · cases hf
      | _ => simp [cmpop] at hf
    | _ => simp [cmpop] at hf
  | le =>
    cases d with
    | int i =>
      cases e with
      | int j =>
        simp only [cmpop, Option.some.injEq] at hf
        subst hf
        exact op_le pins s σ g.H x y v u Q I rx ry ⟨i, j, hx.int, hy.int, hQ⟩
      | _ => simp [cmpop] at hf
    | _ => simp [cmpop] at hf
  | gt =>
    cases d with
    | int i =>
      cases e with
      | int j =>
        simp only [cmpop, Option.some.injEq] at hf
        subst hf
        exact op_gt pins s σ g.H x y v u Q I rx ry ⟨i, j, hx.int, hy.int, hQ⟩
      | _ => simp [cmpop] at hf
    | _ => simp [cmpop] at hf
  | ge =>
    cases d with
    | int i =>
      cases e with
      | int j =>
        simp only [cmpop, Option.some.injEq] at hf
        subst hf
        exact op_ge pins s σ g.H x y v u Q I rx ry ⟨i, j, hx.int, hy.int, hQ⟩
      | _ => simp [cmpop] at hf
    | _ => simp [cmpop] at hf
  | is =>
    cases e with
    | non =>
      refine op_isN pins s σ g.H x y v u Q I rx ry ⟨hy.non, ?_⟩
      have hx' := hx
      cases d with
      | non =>
        simp only [cmpop, Option.some.injEq] at hf
        subst hf
        rw [hx.non]; exact hQ
      | bl i => simp only [cmpop, Option.some.injEq] at hf; subst hf; rw [hx.bl]; exact hQ
      | int i => simp only [cmpop, Option.some.injEq] at hf; subst hf; rw [hx.int]; exact hQ
      | str i => simp only [cmpop, Option.some.injEq] at hf; subst hf; rw [hx.str]; exact hQ
      | tup ds =>
        simp only [cmpop, Option.some.injEq] at hf
        subst hf
        obtain ⟨a, vs, ea, _, _⟩ := hx.tup r
        rw [ea]; exact hQ
      | lst ds =>
        simp only [cmpop, Option.some.injEq] at hf
        subst hf
        obtain ⟨a, vs, ea, _, _⟩ := hx.lst
        rw [ea]; exact hQ
      | fn i =>
        simp only [cmpop, Option.some.injEq] at hf
        subst hf
        have hx' : Rp Γ κ g.F x (.fn i) := hx
        unfold Rp at hx'
        obtain ⟨a, ea, _⟩ := hx'
        rw [ea]; exact hQ
      | cls i =>
        simp only [cmpop, Option.some.injEq] at hf
        subst hf
        have hx' : Rp Γ κ g.F x (.cls i) := hx
        unfold Rp at hx'
        rw [hx']; exact hQ
      | cup =>
        simp only [cmpop, Option.some.injEq] at hf
        subst hf
        have hx' : Rp Γ κ g.F x .cup := hx
        unfold Rp at hx'
        obtain ⟨a, ea, _⟩ := hx'
        rw [ea]; exact hQ
      | ro i =>
        simp only [cmpop, Option.some.injEq] at hf
        subst hf
        have hx' : Rp Γ κ g.F x (.ro i) := hx
        unfold Rp at hx'
        obtain ⟨a, ea, _⟩ := hx'
        rw [ea]; exact hQ
      | dct l ks ds =>
        simp only [cmpop, Option.some.injEq] at hf
        subst hf
        obtain ⟨a, ws, ea, _⟩ := hx
        rw [ea]; exact hQ
    | bl k =>
      cases d with
      | bl j =>
        simp only [cmpop, Option.some.injEq] at hf
        subst hf
        exact op_isBl pins s σ g.H x y v u Q I rx ry ⟨j, k, hx.bl, hy.bl, by rw [← Bool.beq_eq_decide_eq]; exact hQ⟩
      | _ => simp [cmpop] at hf
    | _ => cases d <;> simp [cmpop] at hf
  | isn =>
    cases e with
    | non =>
      refine op_notN pins s σ g.H x y v u Q I rx ry ⟨hy.non, ?_⟩
      cases d with
      | non =>
        simp only [cmpop, Option.some.injEq] at hf
        subst hf
        rw [hx.non]; exact hQ
      | bl i => simp only [cmpop, Option.some.injEq] at hf; subst hf; rw [hx.bl]; exact hQ
      | int i => simp only [cmpop, Option.some.injEq] at hf; subst hf; rw [hx.int]; exact hQ
      | str i => simp only [cmpop, Option.some.injEq] at hf; subst hf; rw [hx.str]; exact hQ
      | tup ds =>
        simp only [cmpop, Option.some.injEq] at hf
        subst hf
        obtain ⟨a, vs, ea, _, _⟩ := hx.tup r
        rw [ea]; exact hQ
      | lst ds =>
        simp only [cmpop, Option.some.injEq] at hf
        subst hf
        obtain ⟨a, vs, ea, _, _⟩ := hx.lst
        rw [ea]; exact hQ
      | fn i =>
        simp only [cmpop, Option.some.injEq] at hf
        subst hf
        have hx' : Rp Γ κ g.F x (.fn i) := hx
        unfold Rp at hx'
        obtain ⟨a, ea, _⟩ := hx'
        rw [ea]; exact hQ
      | cls i =>
        simp only [cmpop, Option.some.injEq] at hf
        subst hf
        have hx' : Rp Γ κ g.F x (.cls i) := hx
        unfold Rp at hx'
        rw [hx']; exact hQ
      | cup =>
        simp only [cmpop, Option.some.injEq] at hf
        subst hf
        have hx' : Rp Γ κ g.F x .cup := hx
        unfold Rp at hx'
        obtain ⟨a, ea, _⟩ := hx'
        rw [ea]; exact hQ
      | ro i =>
        simp only [cmpop, Option.some.injEq] at hf
        subst hf
        have hx' : Rp Γ κ g.F x (.ro i) := hx
        unfold Rp at hx'
        obtain ⟨a, ea, _⟩ := hx'
        rw [ea]; exact hQ
      | dct l ks ds =>
        simp only [cmpop, Option.some.injEq] at hf
        subst hf
        obtain ⟨a, ws, ea, _⟩ := hx
        rw [ea]; exact hQ
    | bl k =>
      cases d with
      | bl j =>
        simp only [cmpop, Option.some.injEq] at hf
        subst hf
        exact op_notBl pins s σ g.H x y v u Q I rx ry ⟨j, k, hx.bl, hy.bl, by rw [← Bool.beq_eq_decide_eq]; exact hQ⟩
      | _ => simp [cmpop] at hf
    | _ => cases d <;> simp [cmpop] at hf
  | isin =>
    have hf' : (match items? e with | some xs => if eqOk d e = true then some (isinD d xs) else none | none => none) = some b := by
      cases d <;> cases e <;> exact hf
    cases qi : items? e with
    | none => rw [qi] at hf'; cases hf'
    | some cs =>
      rw [qi] at hf'
      simp only [] at hf'
      split at hf'
      · rename_i hk
        simp only [Option.some.injEq] at hf'
        have hk' : okD 64 d = true ∧ okD 64 e = true := by simpa [eqOk] using hk
        obtain ⟨as, r1⟩ := reads rx hx hk'.1
        obtain ⟨bs, r2⟩ := reads ry hy hk'.2
        have ks := (items qi).2 63 hk'.2
        have fin : EP X pins σ Q (.bool ((pys cs).any fun z => PyData.eqv z (py d))) s := by
          rw [isin_eq hk'.1 (by decide) cs ks, hf']
          exact ⟨.bl b, g.H, I, rfl, hQ⟩
        rcases (items qi).1 with z | z
        · rw [z] at r2
          exact SeqAt.in_list_reads r2 r1 (pys_ok 63 cs ks).1 (py_ok 64 d hk'.1).1 (PyProof.Rows.room_in_shaped (shaped_ok hk'.1) (by omega)) fin
        · rw [z] at r2
          exact SeqAt.in_tuple_reads r2 r1 (pys_ok 63 cs ks).1 (py_ok 64 d hk'.1).1 (PyProof.Rows.room_in_shaped (shaped_ok hk'.1) (by omega)) fin
      · cases hf'
  | notin =>
    have hf' : (match items? e with | some xs => if eqOk d e = true then some (!isinD d xs) else none | none => none) = some b := by
      cases d <;> cases e <;> exact hf
    cases qi : items? e with
    | none => rw [qi] at hf'; cases hf'
    | some cs =>
      rw [qi] at hf'
      simp only [] at hf'
      split at hf'
      · rename_i hk
        simp only [Option.some.injEq] at hf'
        have hk' : okD 64 d = true ∧ okD 64 e = true := by simpa [eqOk] using hk
        obtain ⟨as, r1⟩ := reads rx hx hk'.1
        obtain ⟨bs, r2⟩ := reads ry hy hk'.2
        have ks := (items qi).2 63 hk'.2
        have fin : EP X pins σ Q (.bool (!(pys cs).any fun z => PyData.eqv z (py d))) s := by
          rw [isin_eq hk'.1 (by decide) cs ks, hf']
          exact ⟨.bl b, g.H, I, rfl, hQ⟩
        rcases (items qi).1 with z | z
        · rw [z] at r2
          exact SeqAt.notIn_list_reads r2 r1 (pys_ok 63 cs ks).1 (py_ok 64 d hk'.1).1 (PyProof.Rows.room_in_shaped (shaped_ok hk'.1) (by omega)) fin
        · rw [z] at r2
          exact SeqAt.notIn_tuple_reads r2 r1 (pys_ok 63 cs ks).1 (py_ok 64 d hk'.1).1 (PyProof.Rows.room_in_shaped (shaped_ok hk'.1) (by omega)) fin
      · cases hf'
end
end Ev

/-! built-in functions by values -/
namespace PyProof.Rows
open PySem PySem.Spec
section
variable {prog : Program} {w : World} {A : Around} {E : Value → Shared → Prop} {s : Shared}
/-- what sorted takes from a tuple -/
theorem collect_tupleE {l : Addr} {vs : List Value} {Q : List Value → Shared → Prop} (hl : s.heap.IsTuple l vs.toArray)
    (h : Q vs { s with heap := (s.heap.push (seqObj "list" #[] 0)).update s.heap.objs.size (Obj.mapSeq (· ++ vs.toArray)) }) (hsz : vs.length ≤ sizeLine) :
    wpAny (model prog w) A (collect (.ref l)) Q E s := by
  obtain ⟨o, ho, hc, n, hd⟩ := id hl
  unfold collect
  refine wpAny_bind (wpAny_runValue (codeAny_builtin entry_proto_collect' ?_))
  show wpAny _ _ (do again (.builtin "list.__iadd__" ⟨[← newList [], .ref l], []⟩)) _ _ s
  refine wpAny_bind (wpAny_newList (wpAny_pure ⟨Code.quiet_builtin _ (by decide +kernel), codeAny_builtin entry_list_iadd' ?_⟩))
  show wpAny _ _ (Builtin.List.listExtendWith (.ref s.heap.objs.size) (.ref l) (.ref s.heap.objs.size)) _ _ { s with heap := s.heap.push (seqObj "list" #[] 0) }
  unfold Builtin.List.listExtendWith
  have ho' : (s.heap.push (seqObj "list" #[] 0)).get? l = some o := Heap.get?_push_of_some _ ho
  refine wpAny_bind (wpAny_typeOf (T := "tuple") ⟨o, ho', hc⟩ ?_)
  have ht : (Value.type "tuple" == Value.type "tuple") = true := by rfl
  rw [if_pos (by rw [ht]; simp)]
  refine wpAny_bind (listItems_at ho' hd ?_)
  refine wpAny_bind (listItems_at (xs := #[]) (n := 0) (Heap.get?_push_size _ rfl) rfl ?_)
  rw [if_neg (by simp)]
  refine wpAny_bind (listUpdate_at (xs := #[]) (n := 0) (Heap.get?_push_size _ rfl) rfl ?_ (Nat.zero_le _) (by show (#[] ++ vs.toArray).size ≤ sizeLine + 1; simp only [Array.size_append, List.size_toArray, List.length_nil]; omega))
  refine wpAny_pure ?_
  show wpAny (model prog w) A (do
      let o ← load s.heap.objs.size
      match o.data with
      | .seq xs _ => pure xs.toList
      | _ => unsupported "internal:collect") Q E { s with heap := (s.heap.push (seqObj "list" #[] 0)).update s.heap.objs.size (Obj.mapSeq (· ++ vs.toArray)) }
  refine wpAny_bind (wpAny_load (get?_update_seq (Heap.get?_push_size _ rfl) _) ?_)
  show wpAny _ _ (pure ((#[] : Array Value) ++ vs.toArray).toList) Q E _
  rw [show ((#[] : Array Value) ++ vs.toArray).toList = vs by simp]
  exact wpAny_pure h
end
end PyProof.Rows
namespace SrtR
open PySem PySem.Spec PyProof.Rows SrtO L2
section
variable {prog : Program} {w : World} {A : Around} {E : Value → Shared → Prop} {s : Shared}
/-- sorted of a tuple -/
theorem sorted_ordKT {l : Addr} {vs : List Value} {b : Bool} {kw : List (Str × Value)} {ltv : Value → Value → Bool} {Q : Value → Shared → Prop} (hk : ∀ a, Builtin.«list.sort» ⟨[.ref a], kw⟩ = Builtin.«list.sort» ⟨[.ref a], [(Str.ofString "reverse", .bool b)]⟩)
    (ha1 : argsOk "sorted" ⟨[.ref l], kw⟩) (ha2 : ∀ a, argsOk "list.sort" ⟨[a], kw⟩) (O : Swo ltv) (hl : s.heap.IsTuple l vs.toArray) (hz : vs.length ≤ sizeLine)
    (hS : 2 ≤ vs.length → ∀ (h₁ : Heap) (a : Addr), h₁.get? a = some (seqObj "list" vs.toArray 0) → (∀ b o, s.heap.get? b = some o → b ≠ a ∧ h₁.get? b = some o) → SortableO prog w A.in1.in1 { s with heap := h₁ } a vs ltv)
    (h : ∀ out : List Value, Srtd ltv out → Stb ltv out (if b = true then vs.reverse else vs) → Q (.ref (s.heap.objs.size + 1)) { s with heap := sortedAll s.heap vs (if b = true then out.toArray.reverse else out.toArray) }) :
    wpAny (model prog w) A (call (.builtin "sorted") [.ref l] kw) Q E s := by
  refine call_function_entry_kw kind_sorted plain_sorted entry_sorted ha1 ?_
  unfold Builtin.«sorted»
  refine wpAny_bind (m := checkCount "sorted" 1 1 _) (wpAny_pure ?_)
  refine wpAny_bind (collect_tupleE hl ?_ hz)
  refine wpAny_bind (wpAny_newList ?_ hz)
  have hsz : ((s.heap.push (seqObj "list" #[] 0)).update s.heap.objs.size (Obj.mapSeq (· ++ vs.toArray))).objs.size = s.heap.objs.size + 1 := by
    rw [Heap.size_update, size_push']
  have hoL : (((s.heap.push (seqObj "list" #[] 0)).update s.heap.objs.size (Obj.mapSeq (· ++ vs.toArray))).push (seqObj "list" vs.toArray 0)).get? (s.heap.objs.size + 1) = some (seqObj "list" vs.toArray 0) := by
    rw [← hsz]; exact Heap.get?_push_size _ rfl
  have keep : ∀ b o, s.heap.get? b = some o → b ≠ s.heap.objs.size + 1 ∧ (((s.heap.push (seqObj "list" #[] 0)).update s.heap.objs.size (Obj.mapSeq (· ++ vs.toArray))).push (seqObj "list" vs.toArray 0)).get? b = some o := fun b o q => by
    have hlt : b < s.heap.objs.size := Heap.lt_size q
    refine ⟨Nat.ne_of_lt (Nat.lt_succ_of_lt hlt), Heap.get?_push_of_some _ ?_⟩
    rw [Heap.get?_update_ne _ _ _ _ (Nat.ne_of_lt hlt)]
    exact Heap.get?_push_of_some _ q
  show wpAny _ _ _ _ _ { s with heap := ((s.heap.push (seqObj "list" #[] 0)).update s.heap.objs.size (Obj.mapSeq (· ++ vs.toArray))).push (seqObj "list" vs.toArray 0) }
  rw [hsz]
  refine wpAny_bind (wpAny_holding (wpAny_call_entry_kw slot_list_sort ⟨_, hoL, rfl⟩ entry_list_sort ?_ (ha2 _)))
  rw [hk]
  refine list_sort_ordR O hoL hz (fun h2 => hS h2 _ _ hoL keep) fun out hs hb => ⟨_, rfl, ?_⟩
  exact wpAny_pure ⟨_, rfl, h out hs hb⟩
end
end SrtR
namespace Ev
open PySem PySem.Spec PySem.W PyProof.Rows L2

/-! ### sorting -/
theorem insertI_perm (x : Int) : ∀ ys : List Int, (insertI x ys).Perm (x :: ys)
  | [] => .refl _
  | y :: ys => by
    unfold insertI
    split
    · exact .refl _
    · exact ((insertI_perm x ys).cons y).trans (.swap x y ys)
theorem sortI_perm : ∀ xs : List Int, (sortI xs).Perm xs
  | [] => .refl _
  | x :: xs => (insertI_perm x (sortI xs)).trans ((sortI_perm xs).cons x)
theorem insertI_sorted {x : Int} : ∀ {ys : List Int}, ys.Pairwise (· ≤ ·) → (insertI x ys).Pairwise (· ≤ ·)
  | [], _ => by simp [insertI]
  | y :: ys, h => by
    have h' := List.pairwise_cons.mp h
    unfold insertI
    split
    · rename_i hxy
      refine List.pairwise_cons.mpr ⟨fun z hz => ?_, h⟩
      rcases List.mem_cons.mp hz with e | hz
      · rw [e]; exact hxy
      · exact Int.le_trans hxy (h'.1 z hz)
    · rename_i hxy
      refine List.pairwise_cons.mpr ⟨fun z hz => ?_, insertI_sorted h'.2⟩
      rcases List.mem_cons.mp ((insertI_perm x ys).mem_iff.mp hz) with e | hz
      · omega
      · exact h'.1 z hz
theorem sortI_sorted : ∀ xs : List Int, (sortI xs).Pairwise (· ≤ ·)
  | [] => .nil
  | x :: xs => insertI_sorted (sortI_sorted xs)
theorem sorted_unique : ∀ {xs ys : List Int}, xs.Perm ys → xs.Pairwise (· ≤ ·) → ys.Pairwise (· ≤ ·) → xs = ys
  | [], ys, h, _, _ => h.nil_eq
  | x :: xs, ys, h, hx, hy => by
    cases ys with
    | nil => exact absurd h.length_eq (by simp)
    | cons y ys =>
      have hx' := List.pairwise_cons.mp hx
      have hy' := List.pairwise_cons.mp hy
      have e : x = y := by
        have m1 : x ∈ y :: ys := h.mem_iff.mp List.mem_cons_self
        have m2 : y ∈ x :: xs := h.mem_iff.mpr List.mem_cons_self
        rcases List.mem_cons.mp m1 with z | z
        · exact z
        · rcases List.mem_cons.mp m2 with z' | z'
          · exact z'.symm
          · have a := hy'.1 x z
            have b := hx'.1 y z'
            omega
      subst e
      rw [sorted_unique (List.perm_cons x |>.mp h) hx'.2 hy'.2]
theorem sortI_of {ns ns' : List Int} (p : ns'.Perm ns) (h : ns'.Pairwise (· ≤ ·)) : ns' = sortI ns := sorted_unique (p.trans (sortI_perm ns).symm) h (sortI_sorted ns)
theorem sortI_rev {ns ns' : List Int} (p : ns'.Perm ns) (h : ns'.Pairwise (· ≥ ·)) : ns' = (sortI ns).reverse := by
  have e : ns'.reverse = sortI ns := sortI_of ((List.reverse_perm ns').trans p) (by rw [List.pairwise_reverse]; exact h)
  rw [← e, List.reverse_reverse]

section
variable {X : Cx} {Γ : Gam}
theorem ords_b {b : Bool} {ns ns' : List Int} (p : ns'.Perm ns) (h : OrdB b ns') : ns' = if b then (sortI ns).reverse else sortI ns := by
  cases b with
  | true => exact sortI_rev p h
  | false => exact sortI_of p h
theorem sorted_runT {b : Bool} {kw : List (Str × Value)} {pins : List (Addr × Obj)} {s : Shared} {σ : L2.St} {H : Hp} {a : Addr} {ns : List Int} {Q : VK} (I : Inv X pins σ H s) (hs : SqT X.K H a (ns.map V.int))
    (hk : ∀ a, Builtin.«list.sort» ⟨[.ref a], kw⟩ = Builtin.«list.sort» ⟨[.ref a], [(Str.ofString "reverse", .bool b)]⟩) (ha1 : argsOk "sorted" ⟨[.ref a], kw⟩) (ha2 : ∀ a, argsOk "list.sort" ⟨[a], kw⟩)
    (q : ∀ (ns' : List Int) (p : Addr), ns'.Perm ns → OrdB b ns' → H p = none → Q (.ref p) (upd H p (.lst (ns'.map V.int)))) : wpAny (model X.prog X.w) X.A (call (.builtin "sorted") [.ref a] kw) (EP X pins σ Q) X.xe s := by
  obtain ⟨its, rv, hl, hz⟩ := I.tuple hs
  have hi := rv.ints
  refine SrtR.sorted_ordKT hk ha1 ha2 SrtO.swo_int (show s.heap.IsTuple a its.toArray from hl) (by rw [← rv.length]; exact hz) (fun h2 h₁ a' _ _ => SrtO.ints_sortable hi h2) fun out h1 h2 => ?_
  obtain ⟨ns', k1, k2, k3⟩ := SrtR.ints_outR hi h1 h2
  obtain ⟨ep, he'⟩ := PyProof.Rows.sortedAll_at s.heap its (if b = true then out.toArray.reverse else out.toArray)
  have hlen : (ns'.map V.int).length ≤ sizeLine := by
    rw [List.length_map, k2.length_eq]
    rw [List.length_map] at hz
    exact hz
  have e0 : ((if b = true then out.toArray.reverse else out.toArray).toList).toArray = (if b = true then out.toArray.reverse else out.toArray) := by rw [Array.toArray_toList]
  exact ⟨.ref _, upd H (s.heap.objs.size + 1) (.lst (ns'.map V.int)), I.laid (t' := s.toks) (fun _ _ => PyProof.Rows.sortedAll_old) (Nat.le_succ _) ⟨hlen, _, ep, vals_of_ints k1, by rw [e0]; exact he'⟩, rfl, q _ _ k2 k3 (I.hok.fresh (Nat.le_succ _))⟩

/-- a call by values -/
def rBi (Γ : Gam) (f : List D → Option B) : List V → Hp → VK → Prop := fun xs H Q => ∃ κ H0 σ s g ds b, g.H = H ∧ Rel Γ κ H0 σ s g ∧ PkL Γ κ g xs ds ∧ f ds = some b ∧ Give Γ κ H0 σ s g b Q
theorem PkL.one {κ : Option Addr} {g : Gh} {xs : List V} {d : D} (h : PkL Γ κ g xs [d]) : ∃ x, xs = [x] ∧ Pk Γ κ g x d := by
  obtain ⟨v, r, e, q, t⟩ := h
  have t' : r = [] := t
  subst t'
  exact ⟨v, e, q⟩
theorem PkL.two {κ : Option Addr} {g : Gh} {xs : List V} {d e : D} (h : PkL Γ κ g xs [d, e]) : ∃ x y, xs = [x, y] ∧ Pk Γ κ g x d ∧ Pk Γ κ g y e := by
  obtain ⟨v, r, e, q, t⟩ := h
  obtain ⟨y, rfl, q2⟩ := PkL.one t
  exact ⟨v, y, e, q, q2⟩
theorem intsAll {ns : List Int} : AlikeAll (ns.map PyData.int) := by
  refine ⟨fun x hx y hy => ?_, fun x hx => ?_⟩
  · obtain ⟨i, _, rfl⟩ := List.mem_map.mp hx
    obtain ⟨j, _, rfl⟩ := List.mem_map.mp hy
    rfl
  · obtain ⟨i, _, rfl⟩ := List.mem_map.mp hx
    intro z; cases z
theorem ints_depth : ∀ ns : List Int, PyData.depthAll (ns.map PyData.int) = 0
  | [] => rfl
  | n :: ns => by
    rw [List.map_cons]
    show max 0 (PyData.depthAll (ns.map PyData.int)) = 0
    rw [ints_depth ns]; rfl
theorem reads_ints {h : Heap} : ∀ {ns : List Int} {us : List Value}, IntsAre us ns → ∃ as, ReadsAll h us (ns.map PyData.int) as
  | ns, us, hI => by
    have hv := vals_of_ints hI
    clear hI
    induction ns generalizing us with
    | nil => cases hv; exact ⟨_, .nil⟩
    | cons n ns ih =>
      rw [List.map_cons] at hv
      cases hv with
      | cons r1 t =>
        obtain ⟨tk, rfl⟩ := r1
        obtain ⟨as, ra⟩ := ih _ t
        exact ⟨_, .cons (Reads.int n tk) ra⟩
theorem reads_int {h : Heap} {v : Value} {m : Int} {as : List Addr} (r : Reads h v (.int m) as) : ∃ t, v = .int m t := by
  cases r; exact ⟨_, rfl⟩
def biV : Bi → Value
  | .abs => .builtin "abs" | .all => .builtin "all" | .any => .builtin "any" | .bool => .type "bool" | .int => .type "int" | .len => .builtin "len" | .list => .type "list"
  | .max1 => .builtin "max" | .max2 => .builtin "max" | .min1 => .builtin "min" | .min2 => .builtin "min" | .sum => .builtin "sum" | .sorted => .builtin "sorted" | .sortedR => .builtin "sorted" | .tuple => .type "tuple"
theorem items_map {d : D} {f : List D → Option B} {b : B} (h : (items? d).bind f = some b) : ∃ ds, items? d = some ds ∧ f ds = some b := by
  cases q : items? d with
  | none => rw [q] at h; cases h
  | some ds => rw [q] at h; exact ⟨ds, rfl, h⟩
theorem ints_of {d : D} {f : List Int → B} {b : B} (h : ((items? d).bind ints?).map f = some b) : ∃ ds ns, items? d = some ds ∧ ints? ds = some ns ∧ f ns = b := by
  cases q : items? d with
  | none => rw [q] at h; cases h
  | some ds =>
    rw [q] at h
    cases q2 : ints? ds with
    | none => simp [q2] at h
    | some ns =>
      simp only [Option.bind_some, q2, Option.map_some, Option.some.injEq] at h
      exact ⟨ds, ns, rfl, q2, h⟩
theorem sortD_of {d : D} {b : B} (h : biop .sorted [d] = some b) : (((items? d).bind ints?).map fun ns => B.new ((sortI ns).map .int)) = some b ∨ ∃ ds ps, d = .lst ds ∧ pairs? ds = some ps ∧ b = .new ((sortP ps).map pD) := by
  have h : sortD d = some b := h
  unfold sortD at h
  cases q : (items? d).bind ints? with
  | some ns => rw [q] at h; exact .inl h
  | none =>
    rw [q] at h
    cases d with
    | lst ds =>
      cases q2 : pairs? ds with
      | none => simp [q2] at h
      | some ps =>
        simp only [q2, Option.map_some, Option.some.injEq] at h
        exact .inr ⟨ds, ps, rfl, q2, h.symm⟩
    | _ => cases h
theorem sorted_ints (hK : X.K = Γ.K) {κ : Option Addr} {H0 : Hp} {σ σ' : L2.St} {s' : St} {g : Gh} {pins : List (Addr × Obj)} {s : Shared} {x : V} {us : List Value} {d : D} {b : B} {Q : VK} (I : Inv X pins σ g.H s) (rv : Vals [x] us) (r : Rel Γ κ H0 σ' s' g) (hx : Pk Γ κ g x d) (he : (((items? d).bind ints?).map fun ns => B.new ((sortI ns).map .int)) = some b) (hQ : Give Γ κ H0 σ' s' g b Q) : wpAny (model X.prog X.w) X.A (call (.builtin "sorted") us) (EP X pins σ Q) X.xe s := by
      obtain ⟨cs, ns, q, q2, e⟩ := ints_of (f := fun ns => .new ((sortI ns).map .int)) he
      subst e
      obtain ⟨a, vs, ea, qa, ta⟩ := hx.items r q
      rw [rpl_ints q2 ta] at qa
      subst ea
      have fin : ∀ (ns' : List Int) (p : Addr), ns'.Perm ns → OrdB false ns' → g.H p = none → Q (.ref p) (upd g.H p (.lst (ns'.map V.int))) := fun ns' p hp ho hn => by
        rw [ords_b hp ho]
        exact hQ.new r (rpl_of_ints _) hn
      rw [Vals.ref1 rv]
      have k0 : ∀ a, Builtin.«list.sort» ⟨[.ref a], []⟩ = Builtin.«list.sort» ⟨[.ref a], [(Str.ofString "reverse", .bool false)]⟩ := fun a => rfl
      rcases qa with qa | qa
      · exact sorted_run (b := false) (kw := []) I (by rw [hK]; exact qa) k0 (PyProof.Rows.args_sorted1 _) (fun _ => PyProof.Rows.args_list_sort _) fin
      · exact sorted_runT (b := false) (kw := []) I (by rw [hK]; exact qa) k0 (PyProof.Rows.args_sorted1 _) (fun _ => PyProof.Rows.args_list_sort _) fin
/-- the two ints of a pair that is frozen -/
def pkey (F : Hp) : V → Int × Int
  | .ref t => (match F t with
    | some (.tup [.int i, .int j]) => (i, j)
    | _ => (0, 0))
  | _ => (0, 0)
theorem pairs_cons {d : D} {ds : List D} {ps : List (Int × Int)} (h : pairs? (d :: ds) = some ps) : ∃ p qs, d = pD p ∧ pairs? ds = some qs ∧ ps = p :: qs := by
  unfold pairs? at h
  split at h
  · rename_i e; cases e
  · rename_i i j xs e
    injection e with e1 e2
    subst e2
    cases q : pairs? ds with
    | none => rw [q] at h; cases h
    | some qs =>
      rw [q] at h
      simp only [Option.map_some, Option.some.injEq] at h
      exact ⟨(i, j), qs, e1, rfl, h.symm⟩
  · cases h
theorem pairs_of : ∀ (ds : List D) {ps : List (Int × Int)}, pairs? ds = some ps → ds = ps.map pD
  | [], ps, h => by
    simp only [pairs?, Option.some.injEq] at h
    subst h; rfl
  | d :: ds, ps, h => by
    obtain ⟨p, qs, e1, e2, e3⟩ := pairs_cons h
    rw [e1, e3, List.map_cons, ← pairs_of ds e2]
theorem pairs_rpl {Γ : Gam} {κ : Option Addr} {F H : Hp} (sb : Sub F H) : ∀ {ps : List (Int × Int)} {vs : List V}, RpL Γ κ F vs (ps.map pD) → vs.map (pkey F) = ps ∧ ∀ x ∈ vs, (∃ t, x = V.ref t ∧ H t = some (.tup [.int (pkey F x).1, .int (pkey F x).2])) ∧ Rp Γ κ F x (pD (pkey F x))
  | [], vs, h => by
    rw [h.inv0]
    exact ⟨rfl, fun x hx => nomatch hx⟩
  | p :: ps, vs, h => by
    obtain ⟨v, r, e, h1, t⟩ := h.inv
    subst e
    obtain ⟨e2, e3⟩ := pairs_rpl sb t
    have h1' := h1
    unfold pD Rp at h1'
    obtain ⟨a, ws, rfl, q, l⟩ := h1'
    obtain ⟨w1, r1, rfl, q1, l1⟩ := l.inv
    obtain ⟨w2, r2, rfl, q2, l2⟩ := l1.inv
    have := l2.inv0
    subst this
    unfold Rp at q1 q2
    subst q1 q2
    have ek : pkey F (.ref a) = p := by
      unfold pkey
      simp only [q]
    refine ⟨by rw [List.map_cons, ek, e2], fun x hx => ?_⟩
    rcases List.mem_cons.1 hx with rfl | hx
    · rw [ek]
      exact ⟨⟨a, rfl, sb a _ q⟩, h1⟩
    · exact e3 x hx
theorem rpl_map {Γ : Gam} {κ : Option Addr} {F : Hp} {f : V → D} : ∀ {vs : List V}, (∀ x ∈ vs, Rp Γ κ F x (f x)) → RpL Γ κ F vs (vs.map f)
  | [], _ => .nil
  | v :: vs, h => .cons (h v List.mem_cons_self) (rpl_map fun x hx => h x (List.mem_cons_of_mem _ hx))
theorem insertP_perm (x : Int × Int) : ∀ ys, (insertP x ys).Perm (x :: ys)
  | [] => .refl _
  | y :: ys => by
    unfold insertP; split
    · exact .refl _
    · exact ((insertP_perm x ys).cons y).trans (.swap x y ys)
theorem sortP_perm : ∀ xs, (sortP xs).Perm xs
  | [] => .refl _
  | x :: xs => (insertP_perm x (sortP xs)).trans ((sortP_perm xs).cons x)
theorem leP_lex (x y : Int × Int) : leP x y = !SrtO.lexB y x := by
  unfold leP SrtO.lexB
  by_cases h : y.1 = x.1
  · rw [if_pos h, decide_eq_false (by omega : ¬ x.1 < y.1), decide_eq_true h.symm]
    by_cases h2 : x.2 ≤ y.2
    · rw [decide_eq_true h2, decide_eq_false (by omega)]; rfl
    · rw [decide_eq_false h2, decide_eq_true (by omega)]; rfl
  · rw [if_neg h, decide_eq_false (fun e => h e.symm : ¬ x.1 = y.1)]
    by_cases h2 : x.1 < y.1
    · rw [decide_eq_true h2, decide_eq_false (by omega : ¬ y.1 < x.1)]; rfl
    · rw [decide_eq_false h2, decide_eq_true (by omega : y.1 < x.1)]; rfl
theorem insertP_sorted (x : Int × Int) : ∀ ys : List (Int × Int), ys.Pairwise (fun a b => SrtO.lexB b a = false) → (insertP x ys).Pairwise (fun a b => SrtO.lexB b a = false)
  | [], _ => by simp [insertP]
  | y :: ys, h => by
    unfold insertP
    rw [List.pairwise_cons] at h
    split
    · rename_i hxy
      rw [leP_lex] at hxy
      refine List.pairwise_cons.2 ⟨fun z hz => ?_, List.pairwise_cons.2 h⟩
      rcases List.mem_cons.1 hz with rfl | hz
      · simpa using hxy
      · have a := SrtO.lexB_no.mp (h.1 z hz)
        have b := SrtO.lexB_no.mp (by simpa using hxy : SrtO.lexB y x = false)
        refine SrtO.lexB_no.mpr ?_
        omega
    · rename_i hxy
      rw [leP_lex] at hxy
      refine List.pairwise_cons.2 ⟨fun z hz => ?_, insertP_sorted x ys h.2⟩
      rcases List.mem_cons.1 ((insertP_perm x ys).mem_iff.1 hz) with rfl | hz
      · have b := SrtO.lexB_iff.mp (by simpa using hxy : SrtO.lexB y z = true)
        refine SrtO.lexB_no.mpr ?_
        omega
      · exact h.1 z hz
theorem sortP_sorted : ∀ xs, (sortP xs).Pairwise (fun a b => SrtO.lexB b a = false)
  | [] => .nil
  | x :: xs => insertP_sorted x _ (sortP_sorted xs)
theorem sortP_of {xs ys : List (Int × Int)} (h : ys.Perm xs) (hs : ys.Pairwise (fun a b => SrtO.lexB b a = false)) : ys = sortP xs :=
  (h.trans (sortP_perm xs).symm).eq_of_pairwise (fun a b _ _ h1 h2 => by
    have a1 := SrtO.lexB_no.mp h1
    have a2 := SrtO.lexB_no.mp h2
    obtain ⟨a, a'⟩ := a
    obtain ⟨b, b'⟩ := b
    simp only [Prod.mk.injEq] at *
    omega) hs (sortP_sorted xs)
theorem sorted_pairs' (hK : X.K = Γ.K) {κ : Option Addr} {H0 : Hp} {σ σ' : L2.St} {s' : St} {g : Gh} {pins : List (Addr × Obj)} {s : Shared} {x : V} {us : List Value} {ds : List D} {ps : List (Int × Int)} {Q : VK} (I : Inv X pins σ g.H s) (rv : Vals [x] us) (r : Rel Γ κ H0 σ' s' g) (hx : Pk Γ κ g x (.lst ds)) (ep : pairs? ds = some ps) (hQ : Give Γ κ H0 σ' s' g (.new ((sortP ps).map pD)) Q) : wpAny (model X.prog X.w) X.A (call (.builtin "sorted") us) (EP X pins σ Q) X.xe s := by
  rw [pairs_of ds ep] at hx
  obtain ⟨a, vs, ea, qa, ta⟩ := hx.lst
  obtain ⟨e1, e2⟩ := pairs_rpl r.sub ta
  subst ea
  refine cr_sortedPO pins s σ g.H _ us Q I rv ⟨a, vs, pkey g.F, rfl, .of qa, fun x hx => (e2 x hx).1, fun ys p h1 h2 hp => ?_⟩
  have e3 : ys.map (pkey g.F) = sortP ps := sortP_of (by rw [← e1]; exact h2.perm.map _) (List.pairwise_map.2 h1)
  refine hQ.new r ?_ hp
  rw [← e3, List.map_map]
  exact rpl_map fun x hx => (e2 x (h2.perm.mem_iff.1 hx)).2
theorem bi_ok (hK : X.K = Γ.K) (hc : X.calm = true) (hu : X.A.units + 200 < cLine) (f : Bi) (hf : f ≠ .sortedR) (hf2 : f ≠ .bool) : CallR X (biV f) (rBi Γ (biop f)) := by
  intro pins s σ H xs us Q I rv h
  obtain ⟨κ, H0, σ', s', g, ds, b, rfl, r, hxs, he, hQ⟩ := h
  match ds, he, hxs with
  | [], he, _ => cases f <;> simp [biop] at he
  | _ :: _ :: _ :: _, he, _ => cases f <;> simp [biop] at he
  | [d, e], he, hxs =>
    obtain ⟨x, y, rfl, hx, hy⟩ := hxs.two
    cases f with
    | max2 =>
      cases d with
      | int i =>
        cases e with
        | int j =>
          simp only [biop, Option.some.injEq] at he
          subst he
          exact call_max2 hc pins s σ g.H _ us Q I rv ⟨i, j, by rw [hx.int, hy.int], hQ.val r (rp_int _)⟩
        | _ => simp [biop] at he
      | _ => simp [biop] at he
    | min2 =>
      cases d with
      | int i =>
        cases e with
        | int j =>
          simp only [biop, Option.some.injEq] at he
          subst he
          exact call_min2 hc pins s σ g.H _ us Q I rv ⟨i, j, by rw [hx.int, hy.int], hQ.val r (rp_int _)⟩
        | _ => simp [biop] at he
      | _ => simp [biop] at he
    | _ => simp [biop] at he
  | [d], he, hxs =>
    obtain ⟨x, rfl, hx⟩ := hxs.one
    cases f with
    | abs =>
      cases d with
      | int i =>
        simp only [biop, Option.some.injEq] at he
        subst he
        exact call_abs pins s σ g.H _ us Q I rv ⟨i, by rw [hx.int], hQ.val r (rp_int _)⟩
      | _ => simp [biop] at he
    | all =>
      cases d with
      | lst ds =>
        simp only [biop] at he
        cases q2 : bools? ds with
        | none => simp [q2] at he
        | some bs =>
          simp only [q2, Option.map_some, Option.some.injEq] at he
          subst he
          obtain ⟨a, vs, ea, qa, ta⟩ := hx.lst
          rw [rpl_bools q2 ta] at qa
          exact cr_all hc pins s σ g.H _ us Q I rv ⟨a, bs, by rw [ea], .of qa, hQ.val r (rp_bl _)⟩
      | _ => simp [biop] at he
    | any =>
      cases d with
      | lst ds =>
        simp only [biop] at he
        cases q2 : bools? ds with
        | none => simp [q2] at he
        | some bs =>
          simp only [q2, Option.map_some, Option.some.injEq] at he
          subst he
          obtain ⟨a, vs, ea, qa, ta⟩ := hx.lst
          rw [rpl_bools q2 ta] at qa
          exact cr_any hc pins s σ g.H _ us Q I rv ⟨a, bs, by rw [ea], .of qa, hQ.val r (rp_bl _)⟩
      | _ => simp [biop] at he
    | bool => exact absurd rfl hf2
    | int =>
      cases d with
      | int i =>
        simp only [biop, Option.some.injEq] at he
        subst he
        exact call_int1 pins s σ g.H _ us Q I rv (.inl ⟨i, by rw [hx.int], hQ.val r (rp_int _)⟩)
      | bl i =>
        simp only [biop, Option.some.injEq] at he
        subst he
        exact call_int1 pins s σ g.H _ us Q I rv (.inr ⟨i, by rw [hx.bl], hQ.val r (rp_int _)⟩)
      | _ => simp [biop] at he
    | len =>
      cases d with
      | tup ds =>
        simp only [biop, Option.some.injEq] at he
        subst he
        obtain ⟨a, vs, ea, qa, ta⟩ := hx.tup r
        exact call_len_seq pins s σ g.H _ us Q I rv ⟨a, vs, by rw [ea], .inr (by rw [hK]; exact qa), hQ.val r (by rw [ta.length]; exact rp_int _)⟩
      | lst ds =>
        simp only [biop, Option.some.injEq] at he
        subst he
        obtain ⟨a, vs, ea, qa, ta⟩ := hx.lst
        exact call_len_seq pins s σ g.H _ us Q I rv ⟨a, vs, by rw [ea], .inl (.of qa), hQ.val r (by rw [ta.length]; exact rp_int _)⟩
      | _ => simp [biop] at he
    | list =>
      cases d with
      | tup ds =>
        simp only [biop, items?, Option.map_some, Option.some.injEq] at he
        subst he
        obtain ⟨a, vs, ea, qa, ta⟩ := hx.tup r
        exact call_list_of pins s σ g.H _ us Q I rv ⟨a, vs, by rw [ea], .inr (by rw [hK]; exact qa), fun p hp => hQ.new r ta hp⟩
      | lst ds =>
        simp only [biop, items?, Option.map_some, Option.some.injEq] at he
        subst he
        obtain ⟨a, vs, ea, qa, ta⟩ := hx.lst
        exact call_list_of pins s σ g.H _ us Q I rv ⟨a, vs, by rw [ea], .inl (.of qa), fun p hp => hQ.new r ta hp⟩
      | ro ns =>
        simp only [biop, Option.some.injEq] at he
        subst he
        have hx' : Rp Γ κ g.F x (.ro ns) := hx
        unfold Rp at hx'
        obtain ⟨a, ea, qa⟩ := hx'
        exact call_list_of pins s σ g.H _ us Q I rv ⟨a, ns.map V.int, by rw [ea], .inl (by rw [hK]; exact r.sub.l qa), fun p hp => hQ.new r (rpl_of_ints ns) hp⟩
      | _ => simp [biop, items?] at he
    | tuple =>
      cases d with
      | tup ds =>
        simp only [biop, items?, Option.map_some, Option.some.injEq] at he
        subst he
        obtain ⟨a, vs, ea, qa, ta⟩ := hx.tup r
        exact call_tuple_of pins s σ g.H _ us Q I rv ⟨a, vs, by rw [ea], .inr ⟨by rw [hK]; exact qa, by rw [← ea]; exact hQ.val r hx.tupF⟩⟩
      | lst ds =>
        simp only [biop, items?, Option.map_some, Option.some.injEq] at he
        subst he
        obtain ⟨a, vs, ea, qa, ta⟩ := hx.lst
        exact call_tuple_of pins s σ g.H _ us Q I rv ⟨a, vs, by rw [ea], .inl ⟨.of qa, fun p hp => hQ.tup r ta hp⟩⟩
      | _ => simp [biop, items?] at he
    | max1 =>
      simp only [biop] at he
      cases q : items? d with
      | none => rw [q] at he; cases he
      | some cs =>
        rw [q] at he
        simp only [Option.bind_some] at he
        split at he
        · rename_i y ys q2
          simp only [Option.some.injEq] at he
          subst he
          obtain ⟨a, vs, ea, qa, ta⟩ := hx.items r q
          rw [rpl_ints q2 ta] at qa
          subst ea
          rw [Vals.ref1 rv]
          have hd0 : X.A.units + 1 + PyData.depthAll (.int y :: ys.map PyData.int) < cLine := by
            have := ints_depth (y :: ys)
            rw [List.map_cons] at this
            omega
          rcases qa with qa | qa
          · obtain ⟨its, r1, hl, _⟩ := I.list (show SqL X.K g.H a _ by rw [hK]; exact qa)
            obtain ⟨as, ra⟩ := reads_ints (h := s.heap) r1.ints
            refine max_list_data (I.ok.hd hc) hl.isList (vs := its.toArray) (x := .int y) (xs := ys.map PyData.int) ra (intsAll (ns := y :: ys)) hd0 fun i v h' tk bs hi hr hk => ?_
            rw [maxD_ints] at hr
            obtain ⟨t, rfl⟩ := reads_int hr
            exact ⟨.int _, g.H, I.kept hk, ⟨_, rfl⟩, hQ.val r (rp_int _)⟩
          · obtain ⟨its, r1, hl, _⟩ := I.tuple (show SqT X.K g.H a _ by rw [hK]; exact qa)
            obtain ⟨as, ra⟩ := reads_ints (h := s.heap) r1.ints
            refine max_tuple_data (I.ok.hd hc) (show s.heap.IsTuple a its.toArray from hl) (x := .int y) (xs := ys.map PyData.int) ra (intsAll (ns := y :: ys)) hd0 fun i v h' tk bs hi hr hk => ?_
            rw [maxD_ints] at hr
            obtain ⟨t, rfl⟩ := reads_int hr
            exact ⟨.int _, g.H, I.kept hk, ⟨_, rfl⟩, hQ.val r (rp_int _)⟩
        · cases he
    | min1 =>
      simp only [biop] at he
      cases q : items? d with
      | none => rw [q] at he; cases he
      | some cs =>
        rw [q] at he
        simp only [Option.bind_some] at he
        split at he
        · rename_i y ys q2
          simp only [Option.some.injEq] at he
          subst he
          obtain ⟨a, vs, ea, qa, ta⟩ := hx.items r q
          rw [rpl_ints q2 ta] at qa
          subst ea
          rw [Vals.ref1 rv]
          have hd0 : X.A.units + 1 + PyData.depthAll (.int y :: ys.map PyData.int) < cLine := by
            have := ints_depth (y :: ys)
            rw [List.map_cons] at this
            omega
          rcases qa with qa | qa
          · obtain ⟨its, r1, hl, _⟩ := I.list (show SqL X.K g.H a _ by rw [hK]; exact qa)
            obtain ⟨as, ra⟩ := reads_ints (h := s.heap) r1.ints
            refine min_list_data (I.ok.hd hc) hl.isList (vs := its.toArray) (x := .int y) (xs := ys.map PyData.int) ra (intsAll (ns := y :: ys)) hd0 fun i v h' tk bs hi hr hk => ?_
            rw [minD_ints] at hr
            obtain ⟨t, rfl⟩ := reads_int hr
            exact ⟨.int _, g.H, I.kept hk, ⟨_, rfl⟩, hQ.val r (rp_int _)⟩
          · obtain ⟨its, r1, hl, _⟩ := I.tuple (show SqT X.K g.H a _ by rw [hK]; exact qa)
            obtain ⟨as, ra⟩ := reads_ints (h := s.heap) r1.ints
            refine min_tuple_data (I.ok.hd hc) (show s.heap.IsTuple a its.toArray from hl) (x := .int y) (xs := ys.map PyData.int) ra (intsAll (ns := y :: ys)) hd0 fun i v h' tk bs hi hr hk => ?_
            rw [minD_ints] at hr
            obtain ⟨t, rfl⟩ := reads_int hr
            exact ⟨.int _, g.H, I.kept hk, ⟨_, rfl⟩, hQ.val r (rp_int _)⟩
        · cases he
    | sum =>
      obtain ⟨cs, ns, q, q2, e⟩ := ints_of (f := fun ns => .val (.int ns.sum)) he
      subst e
      obtain ⟨a, vs, ea, qa, ta⟩ := hx.items r q
      rw [rpl_ints q2 ta] at qa
      subst ea
      rcases qa with qa | qa
      · exact cr_sum hc pins s σ g.H _ us Q I rv ⟨a, ns, rfl, by rw [hK]; exact qa, hQ.val r (rp_int _)⟩
      · obtain ⟨its, r1, hl, _⟩ := I.tuple (show SqT X.K g.H a _ by rw [hK]; exact qa)
        rw [Vals.ref1 rv]
        obtain ⟨xs', e'⟩ := r1.ints.allInts.items
        have hn : numsOf (intItems xs').toList = ns := by rw [← e']; exact r1.ints.numsOf
        rw [nums_intItems] at hn
        have hl' : s.heap.IsTuple a (intItems xs') := by rw [← e']; exact hl
        refine PySem.W.ktm_sumG (I.ok.hd hc) hl' fun h' tk t' hk => ?_
        rw [preSum_eq, List.take_of_length_le (by simp), hn]
        exact ⟨.int _, g.H, I.kept hk, ⟨_, rfl⟩, hQ.val r (rp_int _)⟩
    | sorted =>
      rcases sortD_of he with he | ⟨ds, ps, rfl, ep, rfl⟩
      · exact sorted_ints hK I rv r hx he hQ
      · exact sorted_pairs' hK I rv r hx ep hQ
    | sortedR => exact absurd rfl hf
    | max2 => simp [biop] at he
    | min2 => simp [biop] at he
/-- sorted(x, reverse=True) -/
def rBiR (Γ : Gam) (f : List D → Option B) : List V → List V → Hp → VK → Prop := fun xs zs H Q => zs = [.bl true] ∧ rBi Γ f xs H Q
theorem biR_ok (hK : X.K = Γ.K) : CallRK X (.builtin "sorted") [Str.ofString "reverse"] (rBiR Γ (biop .sortedR)) := by
  intro pins s σ H xs zs us ws Q I rv rz h
  obtain ⟨rfl, κ, H0, σ', s', g, ds, b, rfl, r, hxs, he, hQ⟩ := h
  match ds, he, hxs with
  | [], he, _ => simp [biop] at he
  | _ :: _ :: _, he, _ => simp [biop] at he
  | [d], he, hxs =>
    obtain ⟨x, rfl, hx⟩ := hxs.one
    obtain ⟨cs, ns, q, q2, e⟩ := ints_of (f := fun ns => .new ((sortI ns).reverse.map .int)) he
    subst e
    obtain ⟨a, vs, ea, qa, ta⟩ := hx.items r q
    rw [rpl_ints q2 ta] at qa
    subst ea
    obtain ⟨w1, rfl, e1⟩ := vals1 rz
    obtain rfl : w1 = Value.bool true := e1
    have fin : ∀ (ns' : List Int) (p : Addr), ns'.Perm ns → OrdB true ns' → g.H p = none → Q (.ref p) (upd g.H p (.lst (ns'.map V.int))) := fun ns' p hp ho hn => by
      rw [ords_b hp ho]
      exact hQ.new r (rpl_of_ints _) hn
    rw [Vals.ref1 rv]
    rcases qa with qa | qa
    · exact sorted_run (b := true) I (by rw [hK]; exact qa) (fun _ => rfl) (PyProof.Rows.args_sorted_rev _ _) (fun _ => PyProof.Rows.args_list_sort_rev _ _) fin
    · exact sorted_runT (b := true) I (by rw [hK]; exact qa) (fun _ => rfl) (PyProof.Rows.args_sorted_rev _ _) (fun _ => PyProof.Rows.args_list_sort_rev _ _) fin
end
end Ev

/-! expressions: what the evaluator says is what the code does -/
namespace Ev
open PySem PySem.Spec PyProof.Rows L2

/-- what is fixed through a law -/
structure Law where
  P : Program
  w : World
  mg : Str → Option Value
  base : Heap
  Γ : Gam
/-- what is fixed through a def's body (a comprehension's block): the calls that may nest, the names, the scope, whose cells are new; top: a body -/
structure Frm where
  n : Nat
  N : List Str
  sc : Scope
  cf : Str → Bool
  top : Bool
/-- a context of that body; W: where exceptions go -/
structure CxG (L : Law) (f : Frm) (W : WX) (X : Cx) : Prop where
  prog : X.prog = L.P
  w : X.w = L.w
  K : X.K = L.Γ.K
  mg : X.mg = L.mg
  base : X.base = L.base
  N : X.N = f.N
  nd : f.N.Nodup
  sc : X.env.scope = f.sc
  fn : X.fn = f.cf
  calm : X.calm = true
  room : Room f.n X.A
  tk : Takes X W
  po : PassesOwn (model X.prog X.w) X.A X.env X.xe
  top : f.top = true → X.stack = X.env :: X.outer ∧ X.env.frame = some X.env.locals

/-- a result meets P, an exception goes to W -/
def Fin (Γ : Gam) (κ : Option Addr) (H0 : Hp) (σ : L2.St) (W : WX) {α : Type} (r : R α) (g : Gh) (P : α → St → Gh → Prop) : Prop := match r with
  | .ok a s => ∀ g', Rel Γ κ H0 σ s g' → StepE κ g g' → P a s g'
  | .exc c s => ∀ g', Rel Γ κ H0 σ s g' → StepE κ g g' → W (.ref (Γ.ca c)) none σ g'.H
  | .bad => False
section
variable {Γ : Gam} {κ : Option Addr} {H0 : Hp} {σ : L2.St} {W : WX} {α β : Type} {r : R α} {g : Gh} {P : β → St → Gh → Prop}
theorem Fin.bind {f : α → St → R β} {P' : α → St → Gh → Prop} (h : Fin Γ κ H0 σ W (r.bind f) g P) (k : ∀ a s g', Rel Γ κ H0 σ s g' → StepE κ g g' → Fin Γ κ H0 σ W (f a s) g P → P' a s g') : Fin Γ κ H0 σ W r g P' := by
  cases r with
  | ok a s => exact fun g' r st => k a s g' r st h
  | exc c s => exact h
  | bad => exact h.elim
theorem Fin.imp {P' : β → St → Gh → Prop} {r : R β} (h : Fin Γ κ H0 σ W r g P) (k : ∀ a s g', Rel Γ κ H0 σ s g' → StepE κ g g' → P a s g' → P' a s g') : Fin Γ κ H0 σ W r g P' := by
  cases r with
  | ok a s => exact fun g' r st => k a s g' r st (h g' r st)
  | exc c s => exact h
  | bad => exact h.elim
theorem Fin.lift {o : Option β} {s : St} (h : Fin Γ κ H0 σ W (Ev.lift o s) g P) : ∃ b, o = some b ∧ ∀ g', Rel Γ κ H0 σ s g' → StepE κ g g' → P b s g' := by
  cases o with
  | none => exact h.elim
  | some b => exact ⟨b, rfl, h⟩
theorem Fin.ok {b : β} {s : St} {g1 : Gh} (h : Fin Γ κ H0 σ W (.ok b s) g P) (r : Rel Γ κ H0 σ s g1) (st : StepE κ g g1) : P b s g1 := h g1 r st
/-- from a later state -/
theorem Fin.later {r : R β} {g1 : Gh} (h : Fin Γ κ H0 σ W r g P) (st : StepE κ g g1) : Fin Γ κ H0 σ W r g1 P := by
  cases r with
  | ok a s => exact fun g' r q => h g' r (st.trans q)
  | exc c s => exact fun g' r q => h g' r (st.trans q)
  | bad => exact h.elim
end

/-! ### the readings -/
section
variable (Γ : Gam) (W : WX)
def spB (m : St → R B) : TE := fun σ H Q => ∃ κ H0 s g, g.H = H ∧ Rel Γ κ H0 σ s g ∧ Fin Γ κ H0 σ W (m s) g fun b _ g' => ∀ v, RB Γ κ g.H g' v b → Q v g'.H
def spP (m : St → R D) : TE := fun σ H Q => ∃ κ H0 s g, g.H = H ∧ Rel Γ κ H0 σ s g ∧ Fin Γ κ H0 σ W (m s) g fun d _ g' => ∀ v, Pk Γ κ g' v d → Q v g'.H
def spT (m : St → R Bool) : TT := fun σ H Q => ∃ κ H0 s g, g.H = H ∧ Rel Γ κ H0 σ s g ∧ Fin Γ κ H0 σ W (m s) g fun k _ g' => Q k g'.H
def spA (m : St → R (List D)) : TA := fun σ H Q => ∃ κ H0 s g, g.H = H ∧ Rel Γ κ H0 σ s g ∧ Fin Γ κ H0 σ W (m s) g fun ds _ g' => ∀ vs, RpL Γ κ g'.F vs ds → Q vs g'.H
def spL (m : St → R (List D)) : TA := fun σ H Q => ∃ κ H0 s g, g.H = H ∧ Rel Γ κ H0 σ s g ∧ Fin Γ κ H0 σ W (m s) g fun ds _ g' => ∀ vs, PkL Γ κ g' vs ds → Q vs g'.H
end
theorem PE.imp {X : Cx} {e : Expr} {t t' : TE} (h : PE X e t) (k : ∀ σ H Q, t' σ H Q → t σ H Q) : PE X e t' := ⟨fun pins s σ H Q I w => h.run pins s σ H Q I (k _ _ _ w)⟩
theorem PT.imp {X : Cx} {e : Expr} {t t' : TT} (h : PT X e t) (k : ∀ σ H Q, t' σ H Q → t σ H Q) : PT X e t' := ⟨fun pins s σ H Q I w => h.run pins s σ H Q I (k _ _ _ w)⟩
theorem PW.imp {X : Cx} {e : Expr} {t t' : TT} (h : PW X e t) (k : ∀ σ H Q, t' σ H Q → t σ H Q) : PW X e t' := ⟨fun z pins s σ H Q I w => h.run z pins s σ H Q I (k _ _ _ w)⟩
theorem PA.imp {X : Cx} {e : List Expr} {t t' : TA} (h : PA X e t) (k : ∀ σ H Q, t' σ H Q → t σ H Q) : PA X e t' := ⟨fun p pins s σ H Q I w => h.run p pins s σ H Q I (k _ _ _ w)⟩
theorem PI.imp {X : Cx} {tg e : Expr} {t t' : TI} (h : PI X tg e t) (k : ∀ σ H Q, t' σ H Q → t σ H Q) : PI X tg e t' := ⟨fun pins s σ H Q I w => h.run pins s σ H Q I (k _ _ _ w)⟩
theorem PG.imp {X : Cx} {e : Expr} {t t' : TG} (h : PG X e t) (k : ∀ v σ H Q, t' v σ H Q → t v σ H Q) : PG X e t' := ⟨fun pins s σ H v u Q I r w => h.run pins s σ H v u Q I r (k _ _ _ _ w)⟩
theorem PS.imp {X : Cx} {e : Stmt} {t t' : TS} (h : PS X e t) (k : ∀ D σ H, t' D σ H → t D σ H) : PS X e t' := ⟨fun pins s σ H D I w => h.run pins s σ H D I (k _ _ _ w)⟩
theorem PSs.imp {X : Cx} {e : List Stmt} {t t' : TS} (h : PSs X e t) (k : ∀ D σ H, t' D σ H → t D σ H) : PSs X e t' := ⟨fun pins s σ H D I w => h.run pins s σ H D I (k _ _ _ w)⟩
theorem spB_bad {Γ : Gam} {W : WX} {X : Cx} {e : Expr} : PE X e (spB Γ W fun _ => .bad) := ⟨fun _ _ _ _ _ _ ⟨_, _, _, _, _, _, h⟩ => h.elim⟩
theorem spP_bad {Γ : Gam} {W : WX} {X : Cx} {e : Expr} : PE X e (spP Γ W fun _ => .bad) := ⟨fun _ _ _ _ _ _ ⟨_, _, _, _, _, _, h⟩ => h.elim⟩
theorem spT_bad {Γ : Gam} {W : WX} {X : Cx} {e : Expr} : PT X e (spT Γ W fun _ => .bad) := ⟨fun _ _ _ _ _ _ ⟨_, _, _, _, _, _, h⟩ => h.elim⟩

section
variable {Γ : Gam} {κ : Option Addr} {H0 : Hp} {σ : L2.St} {s : St} {g g' : Gh} {W : WX}
theorem RB.old {v : V} {b : B} {H1 H2 : Hp} (h : RB Γ κ H2 g v b) (k : ∀ a, H1 a ≠ none → H2 a ≠ none) : RB Γ κ H1 g v b := by
  have k' : ∀ a, H2 a = none → H1 a = none := fun a e => Classical.byContradiction fun z => k a z e
  cases b with
  | val d => exact h
  | new ds =>
    obtain ⟨a, vs, e, q, t, n, l⟩ := h
    exact ⟨a, vs, e, q, t, k' a n, l⟩
  | new2 dss =>
    obtain ⟨a, bs, e, q, t, l, nd⟩ := h
    exact ⟨a, bs, e, q, t, fun b hb => ⟨k' b (l b hb).1, (l b hb).2⟩, nd⟩
  | newd ks ds =>
    obtain ⟨a, ws, e, q, ek, t, n, l⟩ := h
    exact ⟨a, ws, e, q, ek, t, k' a n, l⟩
/-- frozen: the ghost alone changes -/
theorem RB.frz' {v : V} {b : B} {g0 : Gh} (r : Rel Γ κ H0 σ s g) (st : StepE κ g0 g) (h : RB Γ κ g0.H g v b) : ∃ g1, g1.H = g.H ∧ Rel Γ κ H0 σ s g1 ∧ StepE κ g0 g1 ∧ Rp Γ κ g1.F v b.d := by
  obtain ⟨F', r', st', _, p⟩ := h.frz r st
  exact ⟨⟨F', g.H, g.ow⟩, rfl, r', st', p⟩
theorem Pk.tru (r : Rel Γ κ H0 σ s g) {K : PySem.W.Frag} (hK : K = Γ.K) {v : V} {d : D} {k : Bool} (h : Pk Γ κ g v d) (e : truth d = some k) : TruV K v g.H k := by
  subst hK
  cases d with
  | non => rw [h.non]; simp only [truth, Option.some.injEq] at e; exact e.symm
  | bl b => rw [h.bl]; simp only [truth, Option.some.injEq] at e; exact e.symm
  | int i => rw [h.int]; simp only [truth, Option.some.injEq] at e; exact e.symm
  | tup ds =>
    obtain ⟨a, vs, e1, q, t⟩ := h.tup r
    subst e1
    simp only [truth, Option.some.injEq] at e
    refine .inr (.inl ⟨vs, q, ?_⟩)
    rw [← e]
    cases ds with
    | nil => rw [t.inv0]; rfl
    | cons d ds => obtain ⟨v, r, e, _⟩ := t.inv; rw [e]; rfl
  | lst ds =>
    obtain ⟨a, vs, e1, q, t⟩ := h.lst
    subst e1
    simp only [truth, Option.some.injEq] at e
    refine .inl ⟨vs, .of q, ?_⟩
    rw [← e]
    cases ds with
    | nil => rw [t.inv0]; rfl
    | cons d ds => obtain ⟨v, r, e, _⟩ := t.inv; rw [e]; rfl
  | _ => simp [truth] at e
end

theorem RB_int {Γ : Gam} {κ : Option Addr} {H : Hp} {g : Gh} (i : Int) : RB Γ κ H g (.int i) (.val (.int i)) := rp_int (Γ := Γ) (κ := κ) (F := g.F) i
theorem RB_bl {Γ : Gam} {κ : Option Addr} {H : Hp} {g : Gh} (i : Bool) : RB Γ κ H g (.bl i) (.val (.bl i)) := rp_bl (Γ := Γ) (κ := κ) (F := g.F) i
/-- an expression's syntax: no star, no set display -/
structure Plain (x : Expr) : Prop where
  st : ∀ es env, starEach (x :: es) env = (false, eval x env) :: starEach es env
  fs : ∀ env v, foldedSetIterable x env v = pure v
  bm : ∀ op, behindInMarks op x = false
  ix : PlainIx x
  ns : ∀ l h s p, x ≠ .Slice l h s p
/-- the expression and its meaning -/
structure OkE (L : Law) (f : Frm) (x : Expr) (m : Sm) : Prop where
  pl : Plain x
  b : ∀ W X, CxG L f W X → PE X x (spB L.Γ W m.b)
  p : ∀ W X, CxG L f W X → PE X x (spP L.Γ W m.p)
  t : ∀ W X, CxG L f W X → PT X x (spT L.Γ W m.t)

section
variable {L : Law} {f : Frm} {x : Expr} {b : St → R B}
theorem p_of {W : WX} {X : Cx} (h : PE X x (spB L.Γ W b)) : PE X x (spP L.Γ W (Sm.of b).p) := by
  refine PE.imp h fun σ H Q ⟨κ, H0, s, g, e, r, q⟩ => ⟨κ, H0, s, g, e, r, q.bind fun v s1 g1 r1 st1 q1 u hu => ?_⟩
  obtain ⟨g2, e2, r2, st2, p2⟩ := RB.frz' r1 st1 hu
  rw [← e2]
  exact q1.ok r2 st2 u (Rp.pk r2 p2)
theorem t_of {W : WX} {X : Cx} (hK : X.K = L.Γ.K) (h : PE X x (spB L.Γ W b)) (he : ∀ whole, isTrue x X.env whole = (do let v ← whole; standAt x.pos; holding [v] (truthy v))) : PT X x (spT L.Γ W (Sm.of b).t) := by
  refine PT.imp (pt_truth h he) fun σ H Q ⟨κ, H0, s, g, e, r, q⟩ => ⟨κ, H0, s, g, e, r, q.bind fun v s1 g1 r1 st1 q1 u hu => ?_⟩
  obtain ⟨g2, e2, r2, st2, p2⟩ := RB.frz' r1 st1 hu
  obtain ⟨k, ek, q2⟩ := q1.lift
  rw [← e2]
  exact ⟨k, (Rp.pk r2 p2).tru r2 hK ek, q2 g2 r2 st2⟩
/-- from the value alone -/
theorem OkE.of (pl : Plain x) (h : ∀ W X, CxG L f W X → PE X x (spB L.Γ W b)) (he : ∀ env whole, isTrue x env whole = (do let v ← whole; standAt x.pos; holding [v] (truthy v))) : OkE L f x (Sm.of b) :=
  ⟨pl, h, fun W X c => p_of (h W X c), fun W X c => t_of c.K (h W X c) (he X.env)⟩
end

/-! ### names, constants -/
section
variable {L : Law} {f : Frm}
theorem ok_var {i : Nat} {x : Str} {pos : Pos} (hN : f.N[i]? = some x) (hv : Vis f.sc x) (hd : (x == ("__debug__" : Str)) = false) (hcd : (x == ("__classdict__" : Str)) = false) : OkE L f (.Name x pos) (sVar i) := by
  have base : ∀ W X, CxG L f W X → PE X (.Name x pos) (tVar i) := fun W X c => pe_var (by rw [c.N]; exact hN) (by rw [c.sc]; exact hv) hd hcd
  refine ⟨⟨fun _ _ => rfl, fun _ _ => rfl, fun _ => rfl, fun _ _ => rfl, fun _ _ _ _ h => nomatch h⟩, fun W X c => PE.imp (base W X c) fun σ H Q ⟨κ, H0, s, g, e, r, q⟩ => ?_, fun W X c => PE.imp (base W X c) fun σ H Q ⟨κ, H0, s, g, e, r, q⟩ => ?_, fun W X c => PT.imp (pt_truth (base W X c) fun _ => rfl) fun σ H Q ⟨κ, H0, s, g, e, r, q⟩ => ?_⟩
  · subst e
    simp only [sVar] at q
    cases hs : getS s i with
    | none => rw [hs] at q; exact q.elim
    | some t =>
      rw [hs] at q
      obtain ⟨v, hv, rt⟩ := r.slot i t hs
      refine ⟨v, hv, ?_⟩
      cases t with
      | leaf d => exact q.ok r (StepE.refl _ _) v rt.1
      | own ds =>
        obtain ⟨g1, r1, st1, e1, p1⟩ := RT.frz r hs hv rt
        rw [← e1]
        exact q.ok r1 st1 v p1
      | own2 dss =>
        obtain ⟨g1, r1, st1, e1, p1⟩ := RT.frz r hs hv rt
        rw [← e1]
        exact q.ok r1 st1 v p1
      | dct ks ds =>
        obtain ⟨g1, r1, st1, e1, p1⟩ := RT.frz r hs hv rt
        rw [← e1]
        exact q.ok r1 st1 v p1
  · subst e
    simp only [sVar] at q
    cases hs : getS s i with
    | none => rw [hs] at q; exact q.elim
    | some t =>
      rw [hs] at q
      obtain ⟨v, hv, rt⟩ := r.slot i t hs
      refine ⟨v, hv, ?_⟩
      cases t with
      | leaf d => exact q.ok r (StepE.refl _ _) v (Rp.pk r rt.1)
      | own ds =>
        obtain ⟨a, vs, e1, e2, q1, t1⟩ := rt
        exact q.ok r (StepE.refl _ _) v ⟨a, vs, e1, q1, (r.fr i a (by rw [e2]; simp)).2, t1⟩
      | own2 dss =>
        obtain ⟨g1, r1, st1, e1, rt1⟩ := RT.frzKids r hs hv rt
        obtain ⟨a, vs, e3, e2, q1, t1⟩ := rt1
        rw [← e1]
        exact q.ok r1 st1 v ⟨a, vs, e3, q1, (r1.fr i a (by rw [e2]; simp)).2, t1⟩
      | dct ks ds =>
        obtain ⟨a, ws, e1, e2, q1, ek, t1⟩ := rt
        exact q.ok r (StepE.refl _ _) v ⟨a, ws, e1, .inl q1, (r.fr i a (by rw [e2]; simp)).2, ek, t1⟩
  · subst e
    simp only [sVar] at q
    cases hs : getS s i with
    | none => rw [hs] at q; exact q.elim
    | some t =>
      rw [hs] at q
      obtain ⟨v, hv, rt⟩ := r.slot i t hs
      obtain ⟨k, ek, q2⟩ := q.lift
      refine ⟨v, hv, k, ?_, q2 g r (StepE.refl _ _)⟩
      cases t with
      | leaf d => exact (Rp.pk r rt.1).tru r c.K ek
      | own ds =>
        obtain ⟨a, vs, e1, e2, q1, t1⟩ := rt
        exact (show Pk L.Γ κ g v (.lst ds) from ⟨a, vs, e1, q1, (r.fr i a (by rw [e2]; simp)).2, t1⟩).tru r c.K ek
      | own2 dss =>
        obtain ⟨g1, r1, st1, e1, rt1⟩ := RT.frzKids r hs hv rt
        obtain ⟨a, vs, e3, e2, q1, t1⟩ := rt1
        rw [← e1]
        exact (show Pk L.Γ κ g1 v (.lst (dss.map .lst)) from ⟨a, vs, e3, q1, (r1.fr i a (by rw [e2]; simp)).2, t1⟩).tru r1 c.K ek
      | dct ks ds => cases ek
theorem con_of {d : D} {v : V} {x : Expr} (pl : Plain x) (he : ∀ env whole, isTrue x env whole = (do let v ← whole; standAt x.pos; holding [v] (truthy v))) (h : ∀ W X, CxG L f W X → PE X x (tC v)) (hr : ∀ κ F, Rp L.Γ κ F v d) : OkE L f x (sCon d) := by
  refine OkE.of pl (fun W X c => PE.imp (h W X c) fun σ H Q ⟨κ, H0, s, g, e, r, q⟩ => ?_) he
  subst e
  exact q.ok r (StepE.refl _ _) v (hr _ _)
theorem ok_int {i : Int} {j : Nat} {pos : Pos} : OkE L f (.Constant (.int i) j pos) (sCon (.int i)) := con_of ⟨fun _ _ => rfl, fun _ _ => rfl, fun _ => rfl, fun _ _ => rfl, fun _ _ _ _ h => nomatch h⟩ (fun _ _ => rfl) (fun _ _ _ => pe_int) fun _ _ => rp_int _
theorem ok_bl {i : Bool} {j : Nat} {pos : Pos} : OkE L f (.Constant (.bool i) j pos) (sCon (.bl i)) := con_of ⟨fun _ _ => rfl, fun _ _ => rfl, fun _ => rfl, fun _ _ => rfl, fun _ _ _ _ h => nomatch h⟩ (fun _ _ => rfl) (fun _ _ _ => pe_bl) fun _ _ => rp_bl _
theorem ok_str {i : Str} {j : Nat} {pos : Pos} : OkE L f (.Constant (.str i) j pos) (sCon (.str i)) := con_of ⟨fun _ _ => rfl, fun _ _ => rfl, fun _ => rfl, fun _ _ => rfl, fun _ _ _ _ h => nomatch h⟩ (fun _ _ => rfl) (fun _ _ _ => pe_str) fun _ _ => rp_str _
theorem ok_non {j : Nat} {pos : Pos} : OkE L f (.Constant .none j pos) (sCon .non) := con_of ⟨fun _ _ => rfl, fun _ _ => rfl, fun _ => rfl, fun _ _ => rfl, fun _ _ _ _ h => nomatch h⟩ (fun _ _ => rfl) (fun _ _ _ => pe_non) fun _ _ => rp_non
/-- a global: an int, a text of the module; a def, a class -/
theorem ok_glob {x : Str} {v : V} {u : Value} {d : D} {pos : Pos} (hg : f.sc.names.lookup x = some .globalImplicit) (hm : L.mg x = some u) (rv : RelV v u) (hd : (x == ("__debug__" : Str)) = false) (hr : ∀ κ F, Rp L.Γ κ F v d) : OkE L f (.Name x pos) (sCon d) :=
  con_of ⟨fun _ _ => rfl, fun _ _ => rfl, fun _ => rfl, fun _ _ => rfl, fun _ _ _ _ h => nomatch h⟩ (fun _ _ => rfl) (fun W X c => pe_glob (show X.env.scope.names.lookup x = some .globalImplicit by rw [c.sc]; exact hg) (by rw [c.mg]; exact hm) rv hd) hr

/-! ### several -/
/-- several expressions -/
inductive OkEs (L : Law) (f : Frm) : List Expr → List Sm → Prop where
  | nil : OkEs L f [] []
  | cons {x : Expr} {m : Sm} {xs : List Expr} {ms : List Sm} (h : OkE L f x m) (t : OkEs L f xs ms) : OkEs L f (x :: xs) (m :: ms)
theorem OkEs.args : ∀ {xs : List Expr} {ms : List Sm}, OkEs L f xs ms → ∀ W X, CxG L f W X → PA X xs (spA L.Γ W (sArgs ms))
  | _, _, .nil, W, X, c => PA.imp pa_nil fun σ H Q ⟨κ, H0, s, g, e, r, q⟩ => by
    subst e
    exact q.ok r (StepE.refl _ _) [] .nil
  | _, _, .cons h t, W, X, c => PA.imp (pa_cons (h.b W X c) (t.args W X c) (h.pl.st _ _)) fun σ H Q ⟨κ, H0, s, g, e, r, q⟩ => by
    refine ⟨κ, H0, s, g, e, r, q.bind fun v s1 g1 r1 st1 q1 u hu => ?_⟩
    obtain ⟨g2, e2, r2, st2, p2⟩ := RB.frz' r1 st1 hu
    rw [← e2]
    refine ⟨κ, H0, s1, g2, rfl, r2, (q1.later st2).bind fun vs s3 g3 r3 st3 q3 us hus => ?_⟩
    exact q3.ok r3 st3 (u :: us) (.cons (Rp.mono .rfl' st3.sub _ _ p2) hus)
theorem OkEs.look : ∀ {xs : List Expr} {ms : List Sm}, OkEs L f xs ms → ∀ W X, CxG L f W X → PA X xs (spL L.Γ W (sLook ms))
  | _, _, .nil, W, X, c => PA.imp pa_nil fun σ H Q ⟨κ, H0, s, g, e, r, q⟩ => by
    subst e
    exact q.ok r (StepE.refl _ _) [] rfl
  | _, _, .cons h t, W, X, c => PA.imp (pa_cons (h.p W X c) (t.look W X c) (h.pl.st _ _)) fun σ H Q ⟨κ, H0, s, g, e, r, q⟩ => by
    refine ⟨κ, H0, s, g, e, r, q.bind fun v s1 g1 r1 st1 q1 u hu => ?_⟩
    refine ⟨κ, H0, s1, g1, rfl, r1, (q1.later st1).bind fun vs s3 g3 r3 st3 q3 us hus => ?_⟩
    exact q3.ok r3 st3 (u :: us) ⟨u, us, rfl, hu.step st3, hus⟩
theorem OkEs.length : ∀ {xs : List Expr} {ms : List Sm}, OkEs L f xs ms → xs.length = ms.length
  | _, _, .nil => rfl
  | _, _, .cons _ t => by rw [List.length_cons, List.length_cons, t.length]
end
end Ev

/-! expressions, one construct after another -/
namespace Ev
open PySem PySem.Spec PyProof.Rows L2
theorem Fin.bindE {Γ : Gam} {κ : Option Addr} {H0 : Hp} {σ : L2.St} {W : WX} {α β : Type} {r : R α} {g : Gh} {P : β → St → Gh → Prop} {f : α → St → R β} {P' : α → St → Gh → Prop} (h : Fin Γ κ H0 σ W (r.bind f) g P)
    (k : ∀ a s g', r = .ok a s → Rel Γ κ H0 σ s g' → StepE κ g g' → Fin Γ κ H0 σ W (f a s) g P → P' a s g') : Fin Γ κ H0 σ W r g P' := by
  cases r with
  | ok a s => exact fun g' r st => k a s g' rfl r st h
  | exc c s => exact h
  | bad => exact h.elim
theorem sArgs_len : ∀ {ms : List Sm} {s s' : St} {ds : List D}, sArgs ms s = .ok ds s' → ds.length = ms.length
  | [], s, s', ds, h => by cases h; rfl
  | m :: ms, s, s', ds, h => by
    unfold sArgs at h
    cases q : m.b s with
    | ok v s1 =>
      rw [q] at h
      unfold R.bind at h
      simp only at h
      cases q2 : sArgs ms s1 with
      | ok vs s2 => rw [q2] at h; cases h; rw [List.length_cons, List.length_cons, sArgs_len q2]
      | exc c s2 => rw [q2] at h; cases h
      | bad => rw [q2] at h; cases h
    | exc c s1 => rw [q] at h; cases h
    | bad => rw [q] at h; cases h
section
variable {L : Law} {f : Frm} {x y z : Expr} {mx my mz : Sm} {pos : Pos}
theorem OkE.with {x : Expr} {m m' : Sm} (h : OkE L f x m) (hb : m'.b = m.b) (hp : m'.p = m.p) (ht : ∀ W X, CxG L f W X → PT X x (spT L.Γ W m'.t)) : OkE L f x m' := ⟨h.pl, fun W X c => by rw [hb]; exact h.b W X c, fun W X c => by rw [hp]; exact h.p W X c, ht⟩
theorem spB_run {W : WX} {κ : Option Addr} {H0 : Hp} {σ : L2.St} {s : St} {g : Gh} {m : St → R B} {Q : VK} (r : Rel L.Γ κ H0 σ s g) (h : Fin L.Γ κ H0 σ W (m s) g fun b _ g' => ∀ v, RB L.Γ κ g.H g' v b → Q v g'.H) : spB L.Γ W m σ g.H Q := ⟨κ, H0, s, g, rfl, r, h⟩
/-- two operands and an operation -/
theorem two_ops {W : WX} {κ : Option Addr} {H0 : Hp} {σ : L2.St} {s : St} {g : Gh} {o : D → D → Option B} {Q : VK} (r : Rel L.Γ κ H0 σ s g)
    (h : Fin L.Γ κ H0 σ W ((mx.p s).bind fun x s => (my.p s).bind fun y s => lift (o x y) s) g fun b _ g' => ∀ v, RB L.Γ κ g.H g' v b → Q v g'.H) : tOp (rBin L.Γ o) (spP L.Γ W mx.p) (spP L.Γ W my.p) σ g.H Q := by
  refine ⟨κ, H0, s, g, rfl, r, h.bind fun d s1 g1 r1 st1 h1 v hv => ⟨κ, H0, s1, g1, rfl, r1, (h1.later st1).bind fun e s2 g2 r2 st2 h2 u hu => ?_⟩⟩
  obtain ⟨b, eb, q⟩ := h2.lift
  exact ⟨κ, H0, σ, s2, g2, d, e, b, rfl, r2, hv.step st2, hu, eb, fun g3 r3 st3 w hw => q g3 r3 (st2.trans st3) w (RB.old hw fun a ha => st2.there a (st1.there a ha))⟩
theorem ok_bin {o : Op} (hx : OkE L f x mx) (hy : OkE L f y my) : OkE L f (.BinOp x (opOf o) y pos) (sBin o mx my) :=
  OkE.of ⟨fun _ _ => rfl, fun _ _ => rfl, fun _ => rfl, fun _ _ => rfl, fun _ _ _ _ h => nomatch h⟩ (fun W X c => PE.imp (pe_op (bin_ok c.K o) (hx.p W X c) (hy.p W X c)) fun σ H Q ⟨κ, H0, s, g, e, r, h⟩ => by subst e; exact two_ops r h) fun _ _ => rfl
theorem ok_neg (hx : OkE L f x mx) : OkE L f (.UnaryOp .USub x pos) (sNeg mx) := by
  refine OkE.of ⟨fun _ _ => rfl, fun _ _ => rfl, fun _ => rfl, fun _ _ => rfl, fun _ _ _ _ h => nomatch h⟩ (fun W X c => PE.imp (pe_un un_neg (hx.p W X c)) fun σ H Q ⟨κ, H0, s, g, e, r, h⟩ => ⟨κ, H0, s, g, e, r, h.bind fun d s1 g1 r1 st1 h1 v hv => ?_⟩) fun _ _ => rfl
  cases d with
  | int i => exact ⟨i, hv.int, h1.ok r1 st1 _ (RB_int _)⟩
  | _ => exact h1.elim
theorem ok_not (hx : OkE L f x mx) : OkE L f (.UnaryOp .Not x pos) (sNot mx) := by
  have hb : ∀ W X, CxG L f W X → PE X (.UnaryOp .Not x pos) (spB L.Γ W (sNot mx).b) := fun W X c => PE.imp (pe_not (hx.p W X c)) fun σ H Q ⟨κ, H0, s, g, e, r, h⟩ => ⟨κ, H0, s, g, e, r, h.bind fun d s1 g1 r1 st1 h1 v hv => by
    cases d with
    | bl i => exact ⟨i, hv.bl, h1.ok r1 st1 _ (RB_bl _)⟩
    | _ => exact h1.elim⟩
  exact ⟨⟨fun _ _ => rfl, fun _ _ => rfl, fun _ => rfl, fun _ _ => rfl, fun _ _ _ _ h => nomatch h⟩, hb, fun W X c => p_of (hb W X c), fun W X c => PT.imp (pt_not (hx.t W X c)) fun σ H Q ⟨κ, H0, s, g, e, r, h⟩ => ⟨κ, H0, s, g, e, r, h.bind fun k s1 g1 r1 st1 h1 => h1.ok r1 st1⟩⟩
/-- and, or of a tail -/
structure OkBs (L : Law) (f : Frm) (op : BoolOp) (xs : List Expr) (m : Sm) : Prop where
  b : ∀ pos W X, CxG L f W X → PE X (.BoolOp op xs pos) (spB L.Γ W m.b)
  w : ∀ pos W X, CxG L f W X → PW X (.BoolOp op xs pos) (spT L.Γ W m.t)
theorem bs_and1 (h : OkE L f x mx) : OkBs L f .And [x] mx := ⟨fun _ W X c => pe_one (h.b W X c), fun _ W X c => pw_and1 (h.t W X c)⟩
theorem bs_or1 (h : OkE L f x mx) : OkBs L f .Or [x] mx := ⟨fun _ W X c => pe_one (h.b W X c), fun _ W X c => pw_or1 (h.t W X c)⟩
theorem bs_and {r : List Expr} (h : OkE L f x mx) (t : OkBs L f .And (y :: r) my) : OkBs L f .And (x :: y :: r) (sAnd mx my) := by
  refine ⟨fun pos W X c => PE.imp (pe_and (h.p W X c) (t.b pos W X c)) fun σ H Q ⟨κ, H0, s, g, e, r, h⟩ => ⟨κ, H0, s, g, e, r, h.bind fun d s1 g1 r1 st1 h1 v hv => ?_⟩,
    fun pos W X c => PW.imp (pw_and (h.t W X c) (t.w pos W X c)) fun σ H Q ⟨κ, H0, s, g, e, r, h⟩ => ⟨κ, H0, s, g, e, r, h.bind fun k s1 g1 r1 st1 h1 => ?_⟩⟩
  · cases d with
    | bl i =>
      refine ⟨i, hv.bl, ?_⟩
      cases i with
      | true => exact iteT (spB_run r1 ((h1.later st1).imp fun b s g2 r2 st2 q v hv => q v (RB.old hv fun a ha => st1.there a ha)))
      | false => exact iteF (h1.ok r1 st1 _ (RB_bl _))
    | _ => exact h1.elim
  · cases k with
    | true => exact iteT ⟨κ, H0, s1, g1, rfl, r1, h1.later st1⟩
    | false => exact iteF (h1.ok r1 st1)
theorem bs_or {r : List Expr} (h : OkE L f x mx) (t : OkBs L f .Or (y :: r) my) : OkBs L f .Or (x :: y :: r) (sOr mx my) := by
  refine ⟨fun pos W X c => PE.imp (pe_or (h.p W X c) (t.b pos W X c)) fun σ H Q ⟨κ, H0, s, g, e, r, h⟩ => ⟨κ, H0, s, g, e, r, h.bind fun d s1 g1 r1 st1 h1 v hv => ?_⟩,
    fun pos W X c => PW.imp (pw_or (h.t W X c) (t.w pos W X c)) fun σ H Q ⟨κ, H0, s, g, e, r, h⟩ => ⟨κ, H0, s, g, e, r, h.bind fun k s1 g1 r1 st1 h1 => ?_⟩⟩
  · cases d with
    | bl i =>
      refine ⟨i, hv.bl, ?_⟩
      cases i with
      | true => exact iteT (h1.ok r1 st1 _ (RB_bl _))
      | false => exact iteF (spB_run r1 ((h1.later st1).imp fun b s g2 r2 st2 q v hv => q v (RB.old hv fun a ha => st1.there a ha)))
    | _ => exact h1.elim
  · cases k with
    | true => exact iteT (h1.ok r1 st1)
    | false => exact iteF ⟨κ, H0, s1, g1, rfl, r1, h1.later st1⟩
theorem OkBs.ok {op : BoolOp} {xs : List Expr} {m : Sm} (h : OkBs L f op xs m) (hp : m.p = (Sm.of m.b).p) : OkE L f (.BoolOp op xs pos) m :=
  ⟨⟨fun _ _ => rfl, fun _ _ => rfl, fun _ => rfl, fun _ _ => rfl, fun _ _ _ _ h => nomatch h⟩, fun W X c => h.b pos W X c, fun W X c => by rw [hp]; exact p_of (h.b pos W X c), fun W X c => (h.w pos W X c).pt⟩
/-- a test of a comparison: its value -/
theorem test_imp {W : WX} {b : St → R B} {t : TE} (hk : ∀ s v s', b s = .ok v s' → ∃ k, v = .val (.bl k)) (h : ∀ σ H Q, spB L.Γ W b σ H Q → t σ H Q) : ∀ σ H Q, spT L.Γ W (Sm.of b).t σ H Q → tTest t σ H Q := fun σ H Q ⟨κ, H0, s, g, e, r, q⟩ => by
  refine h σ H _ ⟨κ, H0, s, g, e, r, q.bindE fun v s1 g1 eq r1 st1 q1 u hu => ?_⟩
  obtain ⟨k, ek⟩ := hk s v s1 eq
  subst ek
  obtain ⟨k', ek, q2⟩ := q1.lift
  simp only [truth, Option.some.injEq] at ek
  subst ek
  exact ⟨k, (show Pk L.Γ κ g1 u (.bl k) from hu).bl, q2 g1 r1 st1⟩
theorem R.bind_ok {α β : Type} {r : R α} {k : α → St → R β} {b : β} {s : St} (h : r.bind k = .ok b s) : ∃ a s1, r = .ok a s1 ∧ k a s1 = .ok b s := by
  cases r with
  | ok a s1 => exact ⟨a, s1, rfl, h⟩
  | exc c s1 => cases h
  | bad => cases h
theorem cmp_val {o : Cp} {s s' : St} {v : B} (h : (sCmp o mx my).b s = .ok v s') : ∃ k, v = .val (.bl k) := by
  obtain ⟨a, s1, _, h⟩ := R.bind_ok h
  obtain ⟨b, s2, _, h⟩ := R.bind_ok h
  obtain ⟨k, s3, _, h⟩ := R.bind_ok h
  cases h
  exact ⟨k, rfl⟩
theorem chain_val {o q : Cp} {s s' : St} {v : B} (h : (sChain o q mx my mz).b s = .ok v s') : ∃ k, v = .val (.bl k) := by
  obtain ⟨a, s1, _, h⟩ := R.bind_ok h
  obtain ⟨b, s2, _, h⟩ := R.bind_ok h
  obtain ⟨k, s3, _, h⟩ := R.bind_ok h
  cases k with
  | true =>
    simp only [if_true] at h
    obtain ⟨b, s2, _, h⟩ := R.bind_ok h
    obtain ⟨k, s3, _, h⟩ := R.bind_ok h
    cases h
    exact ⟨k, rfl⟩
  | false =>
    simp only [Bool.false_eq_true, if_false] at h
    cases h
    exact ⟨false, rfl⟩
theorem units_ok {W : WX} {X : Cx} (c : CxG L f W X) : X.A.units + 200 < cLine := by
  have := c.room.un
  omega
theorem cmp_imp {W : WX} {o : Cp} : ∀ σ H Q, spB L.Γ W (sCmp o mx my).b σ H Q → tOp (rCmp L.Γ (cmpop o)) (spP L.Γ W mx.p) (spP L.Γ W my.p) σ H Q := fun σ H Q ⟨κ, H0, s, g, e, r, h⟩ => by
  refine ⟨κ, H0, s, g, e, r, h.bind fun d s1 g1 r1 st1 h1 v hv => ⟨κ, H0, s1, g1, rfl, r1, (h1.later st1).bind fun e s2 g2 r2 st2 h2 u hu => ?_⟩⟩
  refine ⟨κ, H0, σ, s2, g2, d, e, ?_⟩
  cases q : cmpop o d e with
  | none => rw [q] at h2; exact h2.elim
  | some k =>
    rw [q] at h2
    exact ⟨k, rfl, r2, hv.step st2, hu, rfl, h2.ok r2 st2 _ (RB_bl _)⟩
theorem ok_cmp {o : Cp} (hx : OkE L f x mx) (hy : OkE L f y my) : OkE L f (.Compare x [cpOf o] [y] pos) (sCmp o mx my) := by
  have hb : ∀ W X, CxG L f W X → PE X (.Compare x [cpOf o] [y] pos) (spB L.Γ W (sCmp o mx my).b) := fun W X c => PE.imp (pe_cmpR (cmp_ok c.K (units_ok c) o) (hx.p W X c) (hy.p W X c) (hy.pl.bm _)) cmp_imp
  exact ⟨⟨fun _ _ => rfl, fun _ _ => rfl, fun _ => rfl, fun _ _ => rfl, fun _ _ _ _ h => nomatch h⟩, hb, fun W X c => p_of (hb W X c), fun W X c => PT.imp (pt_cmpR (cmp_ok c.K (units_ok c) o) (hx.p W X c) (hy.p W X c) (hy.pl.bm _)) (test_imp (fun _ _ _ => cmp_val) cmp_imp)⟩
end
end Ev

/-! expressions, further constructs -/
namespace Ev
open PySem PySem.Spec PyProof.Rows L2
section
variable {L : Law} {f : Frm} {x y z : Expr} {mx my mz : Sm} {pos : Pos}
theorem chain_imp {W : WX} {o q : Cp} : ∀ σ H Q, spB L.Γ W (sChain o q mx my mz).b σ H Q → tChain (rCmp L.Γ (cmpop o)) (rCmp L.Γ (cmpop q)) (spP L.Γ W mx.p) (spP L.Γ W my.p) (spP L.Γ W mz.p) σ H Q := fun σ H Q ⟨κ, H0, s, g, e, r, h⟩ => by
  refine ⟨κ, H0, s, g, e, r, h.bind fun d s1 g1 r1 st1 h1 v hv => ⟨κ, H0, s1, g1, rfl, r1, (h1.later st1).bind fun e s2 g2 r2 st2 h2 u hu => ?_⟩⟩
  refine ⟨κ, H0, σ, s2, g2, d, e, ?_⟩
  cases qq : cmpop o d e with
  | none => rw [qq] at h2; exact h2.elim
  | some k =>
    rw [qq] at h2
    refine ⟨k, rfl, r2, hv.step st2, hu, rfl, k, rfl, ?_⟩
    have h3 : Fin L.Γ κ H0 σ W (if k = true then (mz.p s2).bind fun z s => (lift (cmpop q e z) s).bind fun k s => R.ok (B.val (D.bl k)) s else R.ok (B.val (D.bl false)) s2) g1 fun b x g' => ∀ (v : V), RB L.Γ κ g.H g' v b → Q v g'.H := h2
    cases k with
    | true =>
      refine iteT ⟨κ, H0, s2, g2, rfl, r2, (Fin.later (by simpa using h3) st2).bind fun z s4 g4 r4 st4 h4 w hw => ?_⟩
      refine ⟨κ, H0, σ, s4, g4, e, z, ?_⟩
      cases q2 : cmpop q e z with
      | none => rw [q2] at h4; exact h4.elim
      | some k2 =>
        rw [q2] at h4
        exact ⟨k2, rfl, r4, hu.step st4, hw, rfl, h4.ok r4 st4 _ (RB_bl _)⟩
    | false =>
      refine iteF ?_
      simp only [Bool.false_eq_true, if_false] at h3
      exact h3.ok r2 st2 _ (RB_bl _)
theorem ok_chain {o q : Cp} (hx : OkE L f x mx) (hy : OkE L f y my) (hz : OkE L f z mz) : OkE L f (.Compare x [cpOf o, cpOf q] [y, z] pos) (sChain o q mx my mz) := by
  have hm : lastMarks [cpOf o, cpOf q] [y, z] = false := hz.pl.bm _
  have hb : ∀ W X, CxG L f W X → PE X (.Compare x [cpOf o, cpOf q] [y, z] pos) (spB L.Γ W (sChain o q mx my mz).b) := fun W X c => PE.imp (pe_chain (cmp_ok c.K (units_ok c) o) (cmp_ok c.K (units_ok c) q) (hx.p W X c) (hy.p W X c) (hz.p W X c) hm) chain_imp
  exact ⟨⟨fun _ _ => rfl, fun _ _ => rfl, fun _ => rfl, fun _ _ => rfl, fun _ _ _ _ h => nomatch h⟩, hb, fun W X c => p_of (hb W X c), fun W X c => PT.imp (pt_chain (cmp_ok c.K (units_ok c) o) (cmp_ok c.K (units_ok c) q) (hx.p W X c) (hy.p W X c) (hz.p W X c) hm) (test_imp (fun _ _ _ => chain_val) chain_imp)⟩
theorem pt_ifExp {X : Cx} {c a b : Expr} {tc ta tb : TT} (hc : PT X c tc) (ha : PT X a ta) (hb : PT X b tb) : PT X (.IfExp c a b pos) (fun σ H Q => tc σ H fun k H1 => if k = true then ta σ H1 Q else tb σ H1 Q) := by
  refine ⟨fun pins s σ H Q I h => ?_⟩
  show wpAny (model X.prog X.w) X.A (do if ← isTrue c X.env (eval c X.env) then isTrue a X.env (eval a X.env) else isTrue b X.env (eval b X.env)) _ _ s
  refine wpAny_bind (thn (hc.run pins s σ H _ I h) fun k s1 ⟨H1, I1, q1⟩ => ?_)
  cases k with
  | true => exact ha.run pins s1 σ H1 Q I1 (by simpa using q1)
  | false => exact hb.run pins s1 σ H1 Q I1 (by simpa using q1)
theorem ok_ife (hx : OkE L f x mx) (hy : OkE L f y my) (hz : OkE L f z mz) : OkE L f (.IfExp x y z pos) (sIfe mx my mz) := by
  have hb : ∀ W X, CxG L f W X → PE X (.IfExp x y z pos) (spB L.Γ W (sIfe mx my mz).b) := fun W X c => PE.imp (pe_ifExp (hx.t W X c) (hy.b W X c) (hz.b W X c)) fun σ H Q ⟨κ, H0, s, g, e, r, h⟩ => ⟨κ, H0, s, g, e, r, h.bind fun k s1 g1 r1 st1 h1 => by
    cases k with
    | true => exact iteT (spB_run r1 ((Fin.later (P := fun b _ g' => ∀ v, RB L.Γ κ g.H g' v b → Q v g'.H) (by simpa using h1) st1).imp fun b s g2 r2 st2 q v hv => q v (RB.old hv fun a ha => st1.there a ha)))
    | false => exact iteF (spB_run r1 ((Fin.later (P := fun b _ g' => ∀ v, RB L.Γ κ g.H g' v b → Q v g'.H) (by simpa using h1) st1).imp fun b s g2 r2 st2 q v hv => q v (RB.old hv fun a ha => st1.there a ha)))⟩
  refine ⟨⟨fun _ _ => rfl, fun _ _ => rfl, fun _ => rfl, fun _ _ => rfl, fun _ _ _ _ h => nomatch h⟩, hb, fun W X c => p_of (hb W X c), fun W X c => PT.imp (pt_ifExp (hx.t W X c) (hy.t W X c) (hz.t W X c)) fun σ H Q ⟨κ, H0, s, g, e, r, h⟩ => ⟨κ, H0, s, g, e, r, h.bind fun k s1 g1 r1 st1 h1 => ?_⟩⟩
  cases k with
  | true => exact iteT ⟨κ, H0, s1, g1, rfl, r1, Fin.later (by simpa using h1) st1⟩
  | false => exact iteF ⟨κ, H0, s1, g1, rfl, r1, Fin.later (by simpa using h1) st1⟩

/-! ### displays, built-ins, indices -/
theorem ok_tup {xs : List Expr} {ms : List Sm} {k : Nat} (h : OkEs L f xs ms) (hl : ms.length ≤ 1000) : OkE L f (.Tuple xs k pos) (Sm.of fun s => (sArgs ms s).bind fun vs s => .ok (.val (.tup vs)) s) := by
  refine OkE.of ⟨fun _ _ => rfl, fun _ _ => rfl, fun _ => rfl, fun _ _ => rfl, fun _ _ _ _ h => nomatch h⟩ (fun W X c => PE.imp (pe_tup (h.args W X c)) fun σ H Q ⟨κ, H0, s, g, e, r, h⟩ => ⟨κ, H0, s, g, e, r, h.bindE fun ds s1 g1 eq r1 st1 h1 vs hvs => ?_⟩) fun _ _ => rfl
  have hz : vs.length ≤ sizeLine := by rw [hvs.length, sArgs_len eq, sizeLine_eq]; omega
  refine ⟨hz, fun p hp => ?_⟩
  obtain ⟨r2, st2, sb⟩ := r1.laidF hp (.tup vs)
  refine h1.ok r2 (st1.trans st2) (.ref p) ?_
  show Rp L.Γ κ (upd g1.F p (.tup vs)) (.ref p) (.tup ds)
  unfold Rp
  exact ⟨p, vs, rfl, upd_same, RpL.mono .rfl' sb ds vs hvs⟩
theorem ok_lst {xs : List Expr} {ms : List Sm} (h : OkEs L f xs ms) (hl : ms.length ≤ 1000) : OkE L f (.List xs pos) (sLst ms) := by
  refine OkE.of ⟨fun _ _ => rfl, fun _ _ => rfl, fun _ => rfl, fun _ _ => rfl, fun _ _ _ _ h => nomatch h⟩ (fun W X c => PE.imp (pe_lst (h.args W X c)) fun σ H Q ⟨κ, H0, s, g, e, r, h⟩ => ⟨κ, H0, s, g, e, r, h.bindE fun ds s1 g1 eq r1 st1 h1 vs hvs => ?_⟩) fun _ _ => rfl
  have hz : vs.length ≤ sizeLine := by rw [hvs.length, sArgs_len eq, sizeLine_eq]; omega
  refine ⟨hz, fun p hp => ?_⟩
  obtain ⟨r2, st2, l⟩ := r1.laid hp (.lst vs)
  refine h1.ok r2 (st1.trans st2) (.ref p) ⟨p, vs, rfl, upd_same, hvs, ?_, l⟩
  cases q : g.H p with
  | none => rfl
  | some o => exact absurd hp (st1.there p (by rw [q]; exact fun z => nomatch z))
theorem OkEs.noStar : ∀ {xs : List Expr} {ms : List Sm}, OkEs L f xs ms → ∀ env pos, (backTo pos (starEach xs env)).any (·.1) = false
  | _, _, .nil, _, _ => rfl
  | _, _, .cons h t, env, pos => by
    rw [h.pl.st]
    show (false || (backTo pos (starEach _ env)).any (·.1)) = false
    rw [t.noStar env pos]; rfl
def biN : Bi → Str
  | .abs => "abs" | .all => "all" | .any => "any" | .bool => "bool" | .int => "int" | .len => "len" | .list => "list" | .max1 => "max" | .max2 => "max" | .min1 => "min" | .min2 => "min" | .sum => "sum" | .sorted => "sorted" | .sortedR => "sorted" | .tuple => "tuple"
theorem biN_ok (b : Bi) : biN b ≠ "__name__" ∧ (biN b == ("__debug__" : Str)) = false ∧ bootBuiltins (biN b) = some (biV b) := by
  cases b <;> exact ⟨by decide, by decide, by first | rfl | kernel_rfl | decide +kernel⟩
theorem ok_bi {b : Bi} {xs : List Expr} {ms : List Sm} {p : Pos} (h : OkEs L f (x :: xs) (mx :: ms)) (hb : b ≠ .sortedR) (hb2 : b ≠ .bool) (hg : f.sc.names.lookup (biN b) = some .globalImplicit) (hm : L.mg (biN b) = none) : OkE L f (.Call (.Name (biN b) p) (x :: xs) [] pos) (sBi b (mx :: ms)) := by
  refine OkE.of ⟨fun _ _ => rfl, fun _ _ => rfl, fun _ => rfl, fun _ _ => rfl, fun _ _ _ _ h => nomatch h⟩ (fun W X c => ?_) fun _ _ => rfl
  obtain ⟨n1, n2, n3⟩ := biN_ok b
  have hg' : Gl X (biN b) := show X.env.scope.names.lookup _ = _ by rw [c.sc]; exact hg
  have hm' : X.mg (biN b) = none := by rw [c.mg]; exact hm
  have hs : (backTo pos (starEach xs X.env)).any (·.1) = false := by cases h with | cons h t => exact t.noStar _ _
  have h1 : starEach (x :: xs) X.env = (false, eval x X.env) :: starEach xs X.env := by cases h with | cons h t => exact h.pl.st _ _
  have imp : ∀ σ H Q, spB L.Γ W (sBi b (mx :: ms)).b σ H Q → tCB (rBi L.Γ (biop b)) (spL L.Γ W (sLook (mx :: ms))) σ H Q := fun σ H Q ⟨κ, H0, s, g, e, r, h⟩ => ⟨κ, H0, s, g, e, r, h.bind fun ds s1 g1 r1 st1 h1 vs hvs => by
    obtain ⟨b', eb, q⟩ := h1.lift
    exact ⟨κ, H0, σ, s1, g1, ds, b', rfl, r1, hvs, eb, fun g3 r3 st3 w hw => q g3 r3 (st1.trans st3) w (RB.old hw fun a ha => st1.there a ha)⟩⟩
  have cr := bi_ok (X := X) (Γ := L.Γ) c.K c.calm (units_ok c) b hb hb2
  cases hv : biV b with
  | builtin id =>
    rw [hv] at cr n3
    exact PE.imp (pe_callB cr hg' hm' n3 (h.look W X c) n1 n2 h1 hs) imp
  | type T =>
    rw [hv] at cr n3
    exact PE.imp (pe_callTy cr hg' hm' n3 (h.look W X c) n1 n2 h1 hs) imp
  | _ => cases b <;> cases hv
/-- sorted(x, reverse=True) -/
theorem ok_biR {p p2 kp : Pos} {j : Nat} (h : OkE L f x mx) (hg : f.sc.names.lookup ("sorted" : Str) = some .globalImplicit) (hm : L.mg "sorted" = none) : OkE L f (.Call (.Name "sorted" p) [x] [⟨some "reverse", .Constant (.bool true) j p2, kp⟩] pos) (sBi .sortedR [mx]) := by
  refine OkE.of ⟨fun _ _ => rfl, fun _ _ => rfl, fun _ => rfl, fun _ _ => rfl, fun _ _ _ _ h => nomatch h⟩ (fun W X c => ?_) fun _ _ => rfl
  have hg' : Gl X ("sorted" : Str) := show X.env.scope.names.lookup _ = _ by rw [c.sc]; exact hg
  have hm' : X.mg "sorted" = none := by rw [c.mg]; exact hm
  have h' : OkEs L f [x] [mx] := .cons h .nil
  have hb : backTo pos (starEach [x] X.env) = (false, eval x X.env) :: backTo pos (starEach [] X.env) := by rw [h.pl.st]; rfl
  have hs : (backTo pos (starEach [x] X.env)).any (·.1) = false := by rw [hb]; rfl
  refine PE.imp (pe_callBK (biR_ok (X := X) (Γ := L.Γ) c.K) hg' hm' (by first | rfl | kernel_rfl) (h'.look W X c) (pk_cons (te := tC (.bl true)) pe_bl pk_nil) (by decide) (by decide) hb hs) fun σ H Q ⟨κ, H0, s, g, e, r, h⟩ => ⟨κ, H0, s, g, e, r, h.bind fun ds s1 g1 r1 st1 h1 vs hvs => ?_⟩
  obtain ⟨b', eb, q⟩ := h1.lift
  exact ⟨rfl, κ, H0, σ, s1, g1, ds, b', rfl, r1, hvs, eb, fun g3 r3 st3 w hw => q g3 r3 (st1.trans st3) w (RB.old hw fun a ha => st1.there a ha)⟩
/-- a call of a def -/
structure FnI where
  name : Str
  addr : Addr
  fd : FuncData
  ps : List Str
/-- what a def's run hands on -/
def spF (L : Law) (F : Fn) (i np : Nat) : Sp := fun vs H Q E => ∃ κ H0 σ s g ds, g.H = H ∧ Rel L.Γ κ H0 σ s g ∧ RpL L.Γ κ g.F vs ds ∧ ds.length = np ∧
  Fin L.Γ κ H0 σ (fun c d _ H' => E c d H') (match F i ds s.cup with
  | .ok b c => R.ok b { s with cup := c }
  | .exc k c => R.exc k { s with cup := c }
  | .bad => R.bad) g fun b _ g' => ∀ v, RB L.Γ κ g.H g' v b → Q v g'.H
/-- .. and that it does so -/
structure CallOk (L : Law) (n : Nat) (F : Fn) (i np : Nat) (x : Str) : Prop where
  ok : ∃ a fd ps, L.mg x = some (.ref a) ∧ PySem.W.keepIn L.Γ.K (.ref a) = true ∧ Binds L.Γ.K fd ps [] ∧ L2.FnOk L.P L.w L.Γ.K L.mg L.base (L2.CX L.P L.w) n a fd ps (spF L F i np)
  db : (x == ("__debug__" : Str)) = false
theorem call_imp {W : WX} {F : Fn} {i : Nat} {ms : List Sm} {σ : L2.St} {H : Hp} {Q : VK} (h : spB L.Γ W (sCall F i ms).b σ H Q) : spA L.Γ W (sArgs ms) σ H fun vs H1 => spF L F i ms.length vs H1 Q (WE W σ) := by
  obtain ⟨κ, H0, s, g, e, r, h⟩ := h
  refine ⟨κ, H0, s, g, e, r, h.bindE fun ds s1 g1 eq r1 st1 h1 vs hvs => ?_⟩
  refine ⟨κ, H0, σ, s1, g1, ds, rfl, r1, hvs, sArgs_len eq, ?_⟩
  have h2 := (Fin.later (by exact h1) st1)
  have h3 : Fin L.Γ κ H0 σ (fun c d _ H' => W c d σ H') (match F i ds s1.cup with
    | .ok b c => R.ok b { s1 with cup := c }
    | .exc k c => R.exc k { s1 with cup := c }
    | .bad => R.bad) g1 fun b _ g' => ∀ v, RB L.Γ κ g.H g' v b → Q v g'.H := h2
  exact h3.imp fun b s g2 r2 st2 q v hv => q v (RB.old hv fun a ha => st1.there a ha)
theorem ok_call {F : Fn} {i : Nat} {xs : List Expr} {ms : List Sm} {n : Str} {p : Pos} (h : OkEs L f (x :: xs) (mx :: ms)) (k : CallOk L f.n F i (mx :: ms).length n) (hg : f.sc.names.lookup n = some .globalImplicit) : OkE L f (.Call (.Name n p) (x :: xs) [] pos) (sCall F i (mx :: ms)) := by
  refine OkE.of ⟨fun _ _ => rfl, fun _ _ => rfl, fun _ => rfl, fun _ _ => rfl, fun _ _ _ _ h => nomatch h⟩ (fun W X c => ?_) fun _ _ => rfl
  obtain ⟨⟨a, fd, ps, hm, hk, hb, F1⟩, hd⟩ := k
  have hg' : Gl X n := show X.env.scope.names.lookup _ = _ by rw [c.sc]; exact hg
  have hs : (backTo pos (starEach xs X.env)).any (·.1) = false := by cases h with | cons h t => exact t.noStar _ _
  have h1 : starEach (x :: xs) X.env = (false, eval x X.env) :: starEach xs X.env := by cases h with | cons h t => exact h.pl.st _ _
  have F2 : L2.FnOk X.prog X.w X.K X.mg X.base (L2.CX X.prog X.w) f.n a fd ps (spF L F i (mx :: ms).length) := by rw [c.prog, c.w, c.K, c.mg, c.base]; exact F1
  exact PE.imp (pe_callS F2 c.room hg' (by rw [c.mg]; exact hm) (by rw [c.K]; exact hk) (by rw [c.K]; exact hb) (fun σ => passAt c.tk σ) (h.args W X c) hd h1 hs) fun σ H Q h => call_imp h
theorem pe_callS0 {X : Cx} {CX : CXT} {k : Nat} {fa : Addr} {fd : FuncData} {ps : List Str} {sp : Sp} {E : L2.St → XK} {n : Str} {p : Pos} (F : L2.FnOk X.prog X.w X.K X.mg X.base CX k fa fd ps sp) (hr : Room k X.A) (hg : Gl X n) (hm : X.mg n = some (.ref fa)) (hk : PySem.W.keepIn X.K (.ref fa) = true) (hb : Binds X.K fd ps []) (hx : ∀ σ, PassesAt CX X σ (E σ))
    (hdb : (n == ("__debug__" : Str)) = false) : PE X (.Call (.Name n p) [] [] pos) (fun σ H Q => sp [] H Q (E σ)) := by
  refine ⟨fun pins s σ H Q I h => ?_⟩
  refine wpAny_Call_Name_kw (ld_glob I hg hm ?_ hdb)
  exact PySem.W.callWith_K0 I.kIn hk (run_fnS (us := []) F hr hb (hx σ) I .nil h)
theorem ok_call0 {F : Fn} {i : Nat} {n : Str} {p : Pos} (k : CallOk L f.n F i 0 n) (hg : f.sc.names.lookup n = some .globalImplicit) : OkE L f (.Call (.Name n p) [] [] pos) (sCall F i []) := by
  refine OkE.of ⟨fun _ _ => rfl, fun _ _ => rfl, fun _ => rfl, fun _ _ => rfl, fun _ _ _ _ h => nomatch h⟩ (fun W X c => ?_) fun _ _ => rfl
  obtain ⟨⟨a, fd, ps, hm, hk, hb, F1⟩, hd⟩ := k
  have hg' : Gl X n := show X.env.scope.names.lookup _ = _ by rw [c.sc]; exact hg
  have F2 : L2.FnOk X.prog X.w X.K X.mg X.base (L2.CX X.prog X.w) f.n a fd ps (spF L F i 0) := by rw [c.prog, c.w, c.K, c.mg, c.base]; exact F1
  refine PE.imp (pe_callS0 F2 c.room hg' (by rw [c.mg]; exact hm) (by rw [c.K]; exact hk) (by rw [c.K]; exact hb) (fun σ => passAt c.tk σ) hd) fun σ H Q h => ?_
  obtain ⟨κ, H0, s, g, e, r, h2⟩ := call_imp (F := F) (i := i) (ms := []) h
  subst e
  exact Fin.ok (b := []) h2 r (StepE.refl _ _) [] .nil
end
end Ev

/-! isinstance, indices, slices; targets that are names -/
namespace Ev
open PySem PySem.Spec PyProof.Rows L2
def tyN : Ty → String
  | .int => "int" | .bool => "bool" | .str => "str" | .tuple => "tuple" | .list => "list"
def tyS : Ty → Str
  | .int => "int" | .bool => "bool" | .str => "str" | .tuple => "tuple" | .list => "list"
section
variable {L : Law} {f : Frm} {x y z : Expr} {mx my mz : Sm} {pos : Pos}
theorem SqT.tyx {K : PySem.W.Frag} {H : Hp} {a : Addr} {xs : List V} (h : SqT K H a xs) : TyX K H (.ref a) (.type "tuple") := by
  rcases h with (h | ⟨o, h⟩) | ⟨o, its, n, h, c, _⟩
  · exact .base (.tup h)
  · exact .fTuple h
  · exact .kTuple h c
theorem Pk.isi {κ : Option Addr} {H0 : Hp} {σ : L2.St} {s : St} {g : Gh} (r : Rel L.Γ κ H0 σ s g) {v : V} {d : D} {t : Ty} {k : Bool} (h : Pk L.Γ κ g v d) (e : isTy t d = some k) : ∃ n, TyX L.Γ.K g.H v (.type n) ∧ kitB n (tyN t) = some k := by
  cases d with
  | non =>
    refine ⟨_, by rw [h.non]; exact .base .non, ?_⟩
    cases t <;> (simp only [isTy, Option.some.injEq] at e; subst e; decide +kernel)
  | bl b =>
    refine ⟨_, by rw [h.bl]; exact .base (.bl b), ?_⟩
    cases t <;> (simp only [isTy, Option.some.injEq] at e; subst e; decide +kernel)
  | int i =>
    refine ⟨_, by rw [h.int]; exact .base (.int i), ?_⟩
    cases t <;> (simp only [isTy, Option.some.injEq] at e; subst e; decide +kernel)
  | str i =>
    refine ⟨_, by rw [h.str]; exact .base (.str i), ?_⟩
    cases t <;> (simp only [isTy, Option.some.injEq] at e; subst e; decide +kernel)
  | tup ds =>
    obtain ⟨a, vs, e1, q, _⟩ := h.tup r
    refine ⟨_, by rw [e1]; exact SqT.tyx q, ?_⟩
    cases t <;> (simp only [isTy, Option.some.injEq] at e; subst e; decide +kernel)
  | lst ds =>
    obtain ⟨a, vs, e1, q, _⟩ := h.lst
    refine ⟨_, by rw [e1]; exact .base (.lst q), ?_⟩
    cases t <;> (simp only [isTy, Option.some.injEq] at e; subst e; decide +kernel)
  | _ => cases t <;> simp [isTy] at e
theorem ok_isi {t : Ty} {p p2 : Pos} (h : OkE L f x mx) (hg : f.sc.names.lookup ("isinstance" : Str) = some .globalImplicit) (hm : L.mg "isinstance" = none) (hg2 : f.sc.names.lookup (tyS t) = some .globalImplicit) (hm2 : L.mg (tyS t) = none) :
    OkE L f (.Call (.Name "isinstance" p) [x, .Name (tyS t) p2] [] pos) (sIsi t mx) := by
  refine OkE.of ⟨fun _ _ => rfl, fun _ _ => rfl, fun _ => rfl, fun _ _ => rfl, fun _ _ _ _ h => nomatch h⟩ (fun W X c => ?_) fun _ _ => rfl
  have hg' : ∀ n, f.sc.names.lookup n = some .globalImplicit → Gl X n := fun n hn => show X.env.scope.names.lookup _ = _ by rw [c.sc]; exact hn
  have hv : bootBuiltins (tyS t) = some (.type (tyN t)) := by cases t <;> first | rfl | kernel_rfl
  have hn : tyS t ≠ "__name__" := by cases t <;> decide
  have hd : (tyS t == ("__debug__" : Str)) = false := by cases t <;> decide
  have ha : PA X [x, .Name (tyS t) p2] (tCons (spP L.Γ W mx.p) (tCons (tC (.ty (tyN t))) tNil)) := pa_cons (h.p W X c) (pa_cons (pe_bltn (hg' _ hg2) (by rw [c.mg]; exact hm2) hv rfl hn hd) pa_nil) (h.pl.st _ _)
  refine PE.imp (pe_callB call_isi (hg' _ hg) (by rw [c.mg]; exact hm) (by first | rfl | kernel_rfl) ha (by decide) (by decide) (h.pl.st _ _) rfl) fun σ H Q ⟨κ, H0, s, g, e, r, h⟩ => ⟨κ, H0, s, g, e, r, h.bind fun d s1 g1 r1 st1 h1 v hv => ?_⟩
  cases q : isTy t d with
  | none => rw [q] at h1; exact h1.elim
  | some k =>
    rw [q] at h1
    obtain ⟨n, ty, ek⟩ := hv.isi r1 q
    exact ⟨v, _, _, _, k, rfl, .ty _, by rw [c.K]; exact ty, kit_ty ek, h1.ok r1 st1 _ (RB_bl _)⟩

/-! ### an index -/
theorem at_eq {α : Type} (xs : List α) (i : Int) : atI xs i = (place xs.length i).bind fun j => xs[j]? := rfl
theorem RpL.atI {κ : Option Addr} {F : Hp} {ds : List D} {vs : List V} {i : Int} {d : D} (h : RpL L.Γ κ F vs ds) (e : at? ds i = some d) : ∃ v, atI vs i = some v ∧ Rp L.Γ κ F v d := by
  unfold at? at e
  rw [at_eq, h.length]
  cases q : place ds.length i with
  | none => rw [q] at e; cases e
  | some j => rw [q] at e; exact h.get e
def rIxD (Γ : Gam) : R2 := fun x y H Q => ∃ κ H0 σ s g d e d', g.H = H ∧ Rel Γ κ H0 σ s g ∧ Pk Γ κ g x d ∧ Pk Γ κ g y e ∧ ixop s.cup d e = some d' ∧ ∀ v, Rp Γ κ g.F v d' → Q v H
theorem ix_ok {X : Cx} (hK : X.K = L.Γ.K) : IxR X (rIxD L.Γ) := by
  intro value slice pins s σ H x y v u Q I rx ry h hs
  obtain ⟨κ, H0, σ', s', g, d, e, d', rfl, r, hx, hy, he, hQ⟩ := h
  refine ix_seq value slice pins s σ g.H x y v u Q I rx ry ?_ hs
  cases d with
  | tup ds =>
    cases e with
    | int i =>
      obtain ⟨a, vs, ea, q, t⟩ := hx.tup r
      obtain ⟨w, e1, p⟩ := t.atI he
      exact .inr (.inl ⟨a, vs, i, w, ea, hy.int, by rw [hK]; exact q, e1, hQ w p⟩)
    | _ => simp [ixop] at he
  | lst ds =>
    cases e with
    | int i =>
      obtain ⟨a, vs, ea, q, t⟩ := hx.lst
      obtain ⟨w, e1, p⟩ := t.atI he
      exact .inl ⟨a, vs, i, w, ea, hy.int, .of q, e1, hQ w p⟩
    | _ => simp [ixop] at he
  | cup =>
    cases e with
    | int i =>
      have hx' : Rp L.Γ κ g.F x .cup := hx
      unfold Rp at hx'
      obtain ⟨a, ea, ek⟩ := hx'
      obtain ⟨_, m, n, ec, q⟩ := r.κF ek
      simp only [ixop, ec] at he
      refine .inl ⟨a, _, i, ?_, ea, hy.int, .of q, ?_⟩
      · exact if i = 0 then .int m else .int n
      · by_cases h0 : i = 0
        · subst h0
          simp only [if_true, Option.some.injEq] at he
          subst he
          exact ⟨rfl, hQ _ (rp_int _)⟩
        · rw [if_neg h0] at he
          by_cases h1 : i = 1
          · subst h1
            simp only [if_true, Option.some.injEq] at he
            subst he
            exact ⟨rfl, hQ _ (rp_int _)⟩
          · rw [if_neg h1] at he; cases he
    | _ => simp [ixop] at he
  | _ => cases e <;> simp [ixop] at he
theorem ok_ix {g : B → St → R Unit} (hx : OkE L f x mx) (hy : OkE L f y my) : OkE L f (.Subscript x y pos) (sIx mx my g) := by
  have hb : ∀ W X, CxG L f W X → PE X (.Subscript x y pos) (spB L.Γ W (sIx mx my g).b) := fun W X c => PE.imp (pe_ix (ix_ok c.K) (hx.p W X c) (hy.p W X c) hy.pl.ix) fun σ H Q ⟨κ, H0, s, g, e, r, h⟩ => by
    refine ⟨κ, H0, s, g, e, r, h.bind fun d s1 g1 r1 st1 h1 v hv => ⟨κ, H0, s1, g1, rfl, r1, (h1.later st1).bind fun e s2 g2 r2 st2 h2 u hu => ?_⟩⟩
    cases q : ixop s2.cup d e with
    | none => rw [q] at h2; exact h2.elim
    | some d' =>
      rw [q] at h2
      exact ⟨κ, H0, σ, s2, g2, d, e, d', rfl, r2, hv.step st2, hu, q, fun w hw => h2.ok r2 st2 w hw⟩
  exact ⟨⟨fun _ _ => rfl, fun _ _ => rfl, fun _ => rfl, fun _ _ => rfl, fun _ _ _ _ h => nomatch h⟩, hb, fun W X c => p_of (hb W X c), fun W X c => t_of c.K (hb W X c) fun _ => rfl⟩

/-! ### slices -/
theorem cut_eq {κ : Option Addr} {F : Hp} {ds : List D} {vs : List V} (h : RpL L.Γ κ F vs ds) (l u : Option Int) : RpL L.Γ κ F (cutV vs l u) (cut ds l u) := by
  unfold cutV cut
  have e : ∀ d o, HT.sIx vs.length d o = slIx ds.length d o := fun d o => by rw [h.length]; cases o <;> rfl
  rw [e, e]
  have e2 : slIx ds.length vs.length u = slIx ds.length ds.length u := by rw [h.length]
  rw [e2]
  exact (h.drop _).take _
def rSlD (Γ : Gam) : V → Option Int → Option Int → Hp → VK → Prop := fun x l u H Q => ∃ κ H0 σ s g d b, g.H = H ∧ Rel Γ κ H0 σ s g ∧ Pk Γ κ g x d ∧ (match d with
    | .tup xs => some (.val (.tup (cut xs l u)))
    | .lst xs => some (.new (cut xs l u))
    | _ => none) = some b ∧ Give Γ κ H0 σ s g b Q
theorem cut_all {ds : List D} {l u : Option Int} (h : slIx ds.length 0 l = 0 ∧ slIx ds.length ds.length u = ds.length) : cut ds l u = ds := by
  unfold cut
  rw [h.1, h.2, List.drop_zero, Nat.sub_zero, List.take_length]
theorem sl_ok {X : Cx} (hK : X.K = L.Γ.K) : SlR X (rSlD L.Γ) := by
  intro pins s σ H x v vl vu lo hi sl Q I rx hs pl pu h
  obtain ⟨κ, H0, σ', s', g, d, b, rfl, r, hx, he, hQ⟩ := h
  cases d with
  | tup ds =>
    simp only [Option.some.injEq] at he
    subst he
    obtain ⟨a, vs, ea, q, t⟩ := hx.tup r
    have e : ∀ d o, HT.sIx vs.length d o = slIx ds.length d o := fun d o => by rw [t.length]; cases o <;> rfl
    refine sl_tupA pins s σ g.H x v vl vu lo hi sl Q I rx hs pl pu ⟨a, vs, ea, by rw [hK]; exact q, fun hw => ?_, fun _ p hp => hQ.tup r (cut_eq t lo hi) hp⟩
    rw [e, e, t.length] at hw
    rw [cut_all hw] at hQ
    rw [← ea]
    exact hQ.val r hx.tupF
  | lst ds =>
    simp only [Option.some.injEq] at he
    subst he
    obtain ⟨a, vs, ea, q, t⟩ := hx.lst
    exact sl_list pins s σ g.H x v vl vu lo hi sl Q I rx hs pl pu ⟨a, vs, ea, .of q, fun p hp => hQ.new r (cut_eq t lo hi) hp⟩
  | _ => simp at he
/-- a slice's end -/
structure OkPart (L : Law) (f : Frm) (x : Option Expr) (m : Sm) : Prop where
  p : ∀ W X, CxG L f W X → PO X x (fun σ H Q => ∃ κ H0 s g, g.H = H ∧ Rel L.Γ κ H0 σ s g ∧ Fin L.Γ κ H0 σ W (m.p s) g fun d _ g' => ∃ o, part? d = some o ∧ Q o g'.H)
theorem part_none : OkPart L f none (sCon .non) := ⟨fun W X c => ⟨fun pins s σ H Q I ⟨κ, H0, s1, g, e, r, h⟩ => po_none.run pins s σ H Q I (by
  subst e
  obtain ⟨o, eo, q⟩ := Fin.ok (b := D.non) (s := s1) h r (StepE.refl _ _)
  cases eo
  exact q)⟩⟩
theorem part_some (h : OkE L f x mx) : OkPart L f (some x) { mx with p := fun s => (mx.p s).bind fun d s => match d with
    | .int i => .ok (.int i) s
    | _ => .bad } := ⟨fun W X c => ⟨fun pins s σ H Q I hh => (po_some (h.p W X c)).run pins s σ H Q I (by
  obtain ⟨κ, H0, s, g, e, r, h⟩ := hh
  refine ⟨κ, H0, s, g, e, r, h.bind fun d s1 g1 r1 st1 h1 v hv => ?_⟩
  cases d with
  | int i =>
    obtain ⟨o, eo, q⟩ := Fin.ok (b := D.int i) (s := s1) h1 r1 st1
    cases eo
    exact ⟨i, hv.int, q⟩
  | _ => exact h1.elim)⟩⟩
theorem ok_sl {ml mh : Sm} {lo hi : Option Expr} {p2 : Pos} (hx : OkE L f x mx) (hl : OkPart L f lo ml) (hh : OkPart L f hi mh) : OkE L f (.Subscript x (.Slice lo hi none p2) pos) (sSl mx ml mh) := by
  refine OkE.of ⟨fun _ _ => rfl, fun _ _ => rfl, fun _ => rfl, fun _ _ => rfl, fun _ _ _ _ h => nomatch h⟩ (fun W X c => PE.imp (pe_slice (sl_ok c.K) (hx.p W X c) (hl.p W X c) (hh.p W X c)) fun σ H Q ⟨κ, H0, s, g, e, r, h⟩ => ?_) fun _ _ => rfl
  refine ⟨κ, H0, s, g, e, r, h.bind fun d s1 g1 r1 st1 h1 v hv => ⟨κ, H0, s1, g1, rfl, r1, (h1.later st1).bind fun e s2 g2 r2 st2 h2 => ?_⟩⟩
  cases q1 : part? e with
  | none => rw [q1] at h2; exact h2.elim
  | some l =>
    rw [q1] at h2
    refine ⟨l, rfl, κ, H0, s2, g2, rfl, r2, Fin.bind (f := fun z s => (lift (part? z) s).bind fun z s => lift (slop d l z) s) (h2.later st2) fun e' s3 g3 r3 st3 h3 => ?_⟩
    cases q2 : part? e' with
    | none => rw [q2] at h3; exact h3.elim
    | some u =>
      rw [q2] at h3
      refine ⟨u, rfl, ?_⟩
      obtain ⟨b, eb, q⟩ := Fin.lift (o := slop d l u) (s := s3) h3
      exact ⟨κ, H0, σ, s3, g3, d, b, rfl, r3, (hv.step st2).step st3, eb, fun g4 r4 st4 w hw => q g4 r4 ((st3).trans st4) w (RB.old hw fun a ha => st3.there a (st2.there a (st1.there a ha)))⟩

end
/-! ### x[::-1] -/
theorem adjust_rev (n : Int) : Builtin.Slice.sliceAdjust none none (-1) n = (n - 1, -1) := rfl
theorem places_rev (n : Nat) : Builtin.Slice.slicePlaces ((n : Int) - 1) (-1) (-1) = n := by
  unfold Builtin.Slice.slicePlaces
  rw [if_neg (by decide)]
  by_cases h : ((n : Int) - 1) > -1
  · rw [if_pos h]
    have e : (((n : Int) - 1 - -1 - 1) / (- -1) + 1) = (n : Int) := by
      rw [show (- -1 : Int) = 1 by decide, Int.ediv_one]; omega
    rw [e]; rfl
  · rw [if_neg h]
    have : n = 0 := by omega
    subst this; rfl
theorem fm_congr {α β : Type} {f g : α → Option β} : ∀ {l : List α}, (∀ a ∈ l, f a = g a) → l.filterMap f = l.filterMap g
  | [], _ => rfl
  | a :: l, h => by
    rw [List.filterMap_cons, List.filterMap_cons, h a List.mem_cons_self, fm_congr fun b hb => h b (List.mem_cons_of_mem _ hb)]
theorem pick_rev (xs : Array Value) : ((List.range xs.size).filterMap fun (m : Nat) => xs[(((xs.size : Int) - 1) + (m : Int) * -1).toNat]?).toArray = xs.toList.reverse.toArray := by
  have e : (List.range xs.size).filterMap (fun (m : Nat) => xs[(((xs.size : Int) - 1) + (m : Int) * -1).toNat]?) = ((List.range xs.size).map fun k => xs.size - 1 - k).filterMap (xs[·]?) := by
    rw [List.filterMap_map]
    refine fm_congr fun m hm => ?_
    have := List.mem_range.mp hm
    show xs[(((xs.size : Int) - 1) + (m : Int) * -1).toNat]? = xs[xs.size - 1 - m]?
    congr 1
    omega
  rw [e, PySem.W.krv_range, List.filterMap_reverse, PySem.W.krv_all]
section
variable {prog : Program} {w : World} {A : Around} {E : Value → Shared → Prop} {s : Shared}
theorem sliceApplied_rev {sl : Addr} {vl vu vs : Value} {n : Nat} {Q : Int × Int × Nat → Shared → Prop} (hs : s.heap.IsSliceOf sl vl vu vs) (pl : IsPart vl none) (pu : IsPart vu none) (ps : IsPart vs (some (-1)))
    (h : Q ((n : Int) - 1, -1, n) s) : wpAny (model prog w) A (Builtin.Slice.sliceApplied (.ref sl) (pure ((n : Nat) : Int))) Q E s := by
  obtain ⟨os, hos, hcs, hds⟩ := id hs
  unfold Builtin.Slice.sliceApplied Builtin.Slice.sliceFields
  refine wpAny_bind (wpAny_bind (wpAny_field hos hds (x := vl) rfl (wpAny_bind (wpAny_field hos hds (x := vu) rfl (wpAny_bind (wpAny_field hos hds (x := vs) rfl (wpAny_pure ?_)))))))
  refine wpAny_bind (HT.slicePart_ ps ?_)
  show wpAny _ _ (if ((-1 : Int) == 0) = true then _ else _) _ _ s
  rw [if_neg (by decide)]
  refine wpAny_bind (HT.slicePart_ pl (wpAny_bind (HT.slicePart_ pu (wpAny_bind (wpAny_pure ?_)))))
  show wpAny _ _ (match Builtin.Slice.sliceAdjust none none (-1) (n : Int) with | (lo, hi) => pure (lo, (-1 : Int), Builtin.Slice.slicePlaces lo hi (-1))) _ _ s
  rw [adjust_rev]
  show wpAny _ _ (pure ((n : Int) - 1, (-1 : Int), Builtin.Slice.slicePlaces ((n : Int) - 1) (-1) (-1))) _ _ s
  rw [places_rev]
  exact wpAny_pure h
theorem getItem_tuple_rev {t sl : Addr} {items : Array Value} {vl vu vs : Value} {Q : Value → Shared → Prop} (ht : IsTup s.heap t items) (hs : s.heap.IsSliceOf sl vl vu vs) (pl : IsPart vl none) (pu : IsPart vu none) (ps : IsPart vs (some (-1)))
    (h : Q (.ref s.heap.objs.size) { s with heap := s.heap.push { cls := .type "tuple", data := .seq items.toList.reverse.toArray } })
    (hsz : items.size ≤ sizeLine) : wpAny (model prog w) A (getItem (.ref t) (.ref sl)) Q E s := by
  have htake : sizeOk (.seq items.toList.reverse.toArray) := by
    show items.toList.reverse.toArray.size ≤ sizeLine
    rw [List.size_toArray, List.length_reverse, Array.length_toList]
    exact hsz
  obtain ⟨os, hos, hcs, hds⟩ := id hs
  have hTs : s.TypeIs (.ref sl) "slice" := ⟨os, hos, hcs⟩
  unfold getItem
  try with_reducible refine wpAny_holding ?_
  first | refine wpAny_bind (wpAny_pure ?_) | skip
  refine wpAny_bind (wpAny_sequenceKey ht.typeIs (by decide) ?_)
  refine wpAny_bind (wpAny_callSpecial?_slot (name := Str.ofString "__getitem__") ht.typeIs PyProof.Rows.slot_tuple_getitem
    (wpAny_call_entry PyProof.Rows.slot_tuple_getitem ht.typeIs entry_tuple_getitem ?_ (args_tuple_getitem _ _)))
  show wpAny _ _ (Builtin.Tuple.tupleItemsOf (.ref t) >>= _) _ _ s
  refine wpAny_bind (tupleItemsOf_ ht ?_)
  refine wpAny_bind (wpAny_typeOf hTs ?_)
  rw [if_pos (by decide)]
  refine wpAny_bind (sliceApplied_rev hs pl pu ps ?_)
  have hno : ¬ (((((items.size : Nat) : Int) - 1) == 0 && (-1 : Int) == 1 && items.size == items.size) = true) := by
    intro q
    rw [Bool.and_eq_true, Bool.and_eq_true] at q
    exact absurd q.1.2 (by decide)
  show wpAny _ _ (if ((((items.size : Nat) : Int) - 1) == 0 && (-1 : Int) == 1 && items.size == items.size) = true then _ else _) _ _ s
  rw [if_neg hno, pick_rev]
  first
    | exact wpAny_bind (m := Builtin.Tuple.tupleExact _) (wpAny_newObj_type (wpAny_pure ⟨_, rfl, wpAny_pure h⟩) htake)
    | exact wpAny_bind (m := Builtin.Tuple.tupleExact _) (wpAny_newObj_type (wpAny_bind (wpAny_pure (wpAny_pure ⟨_, rfl, wpAny_pure h⟩))) htake)
    | exact wpAny_bind (wpAny_bind (m := Builtin.Tuple.tupleExact _) (wpAny_newObj_type (wpAny_pure (wpAny_pure ⟨_, rfl, wpAny_pure h⟩)) htake))
    | exact wpAny_bind (wpAny_bind (m := Builtin.Tuple.tupleExact _) (wpAny_newObj_type (wpAny_pure ⟨_, rfl, wpAny_pure h⟩) htake))
end
def tRevD (K : PySem.W.Frag) (te : TE) : TE := fun σ H Q => te σ H fun x H1 => ∃ a xs, x = .ref a ∧ ((SqL K H1 a xs ∧ ∀ p, H1 p = none → Q (.ref p) (upd H1 p (.lst xs.reverse))) ∨ (SqT K H1 a xs ∧ ∀ p, H1 p = none → Q (.ref p) (upd H1 p (.tup xs.reverse))))
theorem pe_revD {X : Cx} {e : Expr} {te : TE} {k : Nat} {p1 p2 p3 pos : Pos} (he : PE X e te) : PE X (.Subscript e (.Slice none none (some (.UnaryOp .USub (.Constant (.int 1) k p1) p2)) p3) pos) (tRevD X.K te) := by
  refine ⟨fun pins s σ H Q I h => ?_⟩
  refine Subscript_ (thn (he.run pins s σ H _ I h) fun v s1 ⟨x, H1, I1, r1, q1⟩ => ?_)
  obtain ⟨a, xs, ex, hx⟩ := q1
  subst ex
  cases r1
  have hst : PO X (some (.UnaryOp .USub (.Constant (.int 1) k p1) p2)) (tPart (tUn (rU fun i => .int (-i)) (tC (.int 1)))) := po_some (pe_un un_neg pe_int)
  refine wpAny_Slice (thn (po_none.run pins s1 σ H1 (fun o H2 => o = none ∧ H2 = H1) I1 ⟨rfl, rfl⟩) fun vl s2 ⟨l, H2, I2, pl, el, e2⟩ => ?_)
  subst el e2
  refine thn (po_none.run pins s2 σ H2 (fun o H3 => o = none ∧ H3 = H2) I2 ⟨rfl, rfl⟩) fun vu s3 ⟨u, H3, I3, pu, eu, e3⟩ => ?_
  subst eu e3
  refine thn (hst.run pins s3 σ H3 (fun o H4 => o = some (-1) ∧ H4 = H3) I3 ⟨1, rfl, -1, rfl, rfl, rfl⟩) fun vs s4 ⟨o, H4, I4, ps, eo, e4⟩ => ?_
  subst eo e4
  have I5 : Inv X pins σ H4 { s4 with heap := s4.heap.push { cls := .type "slice", data := .fields #[vl, vu, vs] } } := I4.kept (t' := s4.toks) fun b ob q => Heap.get?_push_of_some _ q
  rcases hx with ⟨hx, q⟩ | ⟨hx, q⟩
  · obtain ⟨its, r, ht, hz⟩ := I5.list hx
    have hlen := r.length
    show wpAny (model X.prog X.w) X.A (subscriptTail e (.Slice none none (some (.UnaryOp .USub (.Constant (.int 1) k p1) p2)) p3) (.ref a) (.ref s4.heap.objs.size)) (EP X pins σ Q) X.xe { s4 with heap := s4.heap.push { cls := .type "slice", data := .fields #[vl, vu, vs] } }
    refine tail_any (ops := [.ref a, .ref s4.heap.objs.size]) ht.isList.typeIs (PySem.slot_list_getitem.lookup) ?_ (by with_unfolding_all rfl)
    refine wpAny_getItem_list_slice ht.isList (Heap.IsSliceOf.new _ vl vu vs) pl pu ps (by decide) ?_ (by rw [List.size_toArray]; omega)
    rw [PySem.W.krv_pick]
    refine ⟨.ref _, _, I5.laid (t' := s4.toks) (o := .lst xs.reverse) (fun b ob q => Heap.get?_push_of_some _ q) (Nat.le_refl _) ?_, rfl, q _ (I5.hok.fresh (Nat.le_refl _))⟩
    exact ⟨by rw [List.length_reverse]; exact hz, _, 0, r.reverse, Heap.get?_push_size _ rfl⟩
  · obtain ⟨its, r, ht, hz⟩ := I5.tuple hx
    have hlen := r.length
    show wpAny (model X.prog X.w) X.A (subscriptTail e (.Slice none none (some (.UnaryOp .USub (.Constant (.int 1) k p1) p2)) p3) (.ref a) (.ref s4.heap.objs.size)) (EP X pins σ Q) X.xe { s4 with heap := s4.heap.push { cls := .type "slice", data := .fields #[vl, vu, vs] } }
    refine tail_any (ops := [.ref a, .ref s4.heap.objs.size]) ht.typeIs (PyProof.Rows.slot_tuple_getitem.lookup) ?_ (by with_unfolding_all rfl)
    refine getItem_tuple_rev ht (Heap.IsSliceOf.new _ vl vu vs) pl pu ps ?_ (by rw [List.size_toArray]; omega)
    refine ⟨.ref _, _, I5.laid (t' := s4.toks) (o := .tup xs.reverse) (fun b ob q => Heap.get?_push_of_some _ q) (Nat.le_refl _) ?_, rfl, q _ (I5.hok.fresh (Nat.le_refl _))⟩
    exact ⟨by rw [List.length_reverse]; exact hz, _, r.reverse, ⟨_, Heap.get?_push_size _ rfl, rfl, _, rfl⟩⟩
section
variable {L : Law} {f : Frm} {x y z : Expr} {mx my mz : Sm} {pos : Pos}
theorem ok_rev {k : Nat} {p1 p2 p3 : Pos} (hx : OkE L f x mx) : OkE L f (.Subscript x (.Slice none none (some (.UnaryOp .USub (.Constant (.int 1) k p1) p2)) p3) pos) (sRev mx) := by
  refine OkE.of ⟨fun _ _ => rfl, fun _ _ => rfl, fun _ => rfl, fun _ _ => rfl, fun _ _ _ _ h => nomatch h⟩ (fun W X c => PE.imp (pe_revD (hx.p W X c)) fun σ H Q ⟨κ, H0, s, g, e, r, h⟩ => ⟨κ, H0, s, g, e, r, h.bind fun d s1 g1 r1 st1 h1 v hv => ?_⟩) fun _ _ => rfl
  have old : ∀ {p}, g1.H p = none → g.H p = none := fun {p} hp => Classical.byContradiction fun z => st1.there p z hp
  cases d with
  | tup ds =>
    obtain ⟨a, vs, ea, q, t⟩ := hv.tup r1
    refine ⟨a, vs, ea, .inr ⟨by rw [c.K]; exact q, fun p hp => ?_⟩⟩
    obtain ⟨r2, st2, sb⟩ := r1.laidF hp (.tup vs.reverse)
    refine h1.ok r2 (st1.trans st2) (.ref p) ?_
    show Rp L.Γ κ (upd g1.F p (.tup vs.reverse)) (.ref p) (.tup ds.reverse)
    unfold Rp
    exact ⟨p, vs.reverse, rfl, upd_same, RpL.mono .rfl' sb _ _ t.reverse⟩
  | lst ds =>
    obtain ⟨a, vs, ea, q, t⟩ := hv.lst
    refine ⟨a, vs, ea, .inl ⟨.of q, fun p hp => ?_⟩⟩
    obtain ⟨r2, st2, l⟩ := r1.laid hp (.lst vs.reverse)
    exact h1.ok r2 (st1.trans st2) (.ref p) ⟨p, vs.reverse, rfl, upd_same, t.reverse, old hp, l⟩
  | _ => exact h1.elim
end
end Ev

/-! targets that are names; what is walked -/
namespace Ev
open PySem PySem.Spec PyProof.Rows L2
section
variable {Γ : Gam} {κ : Option Addr} {H0 : Hp} {σ : L2.St} {s : St} {g : Gh}
/-- a slot is set; its tree's own objects are at as -/
theorem Rel.setT (r : Rel Γ κ H0 σ s g) {i : Nat} {t : T} {v : V} {as : List Addr} (hi : i < s.env.length) (rt : RT Γ κ g.F g.H v t as) (nd : as.Nodup) (hl : ∀ a ∈ as, g.F a = none ∧ (∀ j, j ≠ i → a ∉ g.ow j) ∧ κ ≠ some a ∧ H0 a = none) :
    Rel Γ κ H0 (σ.set i (some v)) (setS s i t) ⟨g.F, g.H, fun j => if j = i then as else g.ow j⟩ := by
  refine ⟨?_, fun j u h => ?_, fun j h => ?_, fun j => ?_, fun j k a h1 h2 => ?_, fun j a h => ?_, r.sub, r.cup.same (fun _ _ => rfl) fun _ _ => rfl, fun j a h => ?_, r.grow⟩
  · show (s.env.set i (some t)).length = (σ.set i (some v)).length
    rw [List.length_set, List.length_set]; exact r.len
  · rw [getS_set hi] at h
    by_cases e : j = i
    · subst e
      rw [if_pos rfl] at h
      cases h
      refine ⟨v, ?_, ?_⟩
      · rw [List.getElem?_set_self (by rw [← r.len]; exact hi)]
      · show RT Γ κ g.F g.H v t (if j = j then as else g.ow j)
        rw [if_pos rfl]; exact rt
    · rw [if_neg e] at h
      obtain ⟨w, hw, q⟩ := r.slot j u h
      refine ⟨w, by rw [List.getElem?_set_ne (Ne.symm e)]; exact hw, ?_⟩
      show RT Γ κ g.F g.H w u (if j = i then as else g.ow j)
      rw [if_neg e]; exact q
  · rw [getS_set hi] at h
    by_cases e : j = i
    · rw [if_pos e] at h; cases h
    · rw [if_neg e] at h
      show (if j = i then as else g.ow j) = []
      rw [if_neg e]; exact r.emp j h
  · show (if j = i then as else g.ow j).Nodup
    by_cases e : j = i
    · rw [if_pos e]; exact nd
    · rw [if_neg e]; exact r.nd j
  · have h1 : a ∈ (if j = i then as else g.ow j) := h1
    have h2 : a ∈ (if k = i then as else g.ow k) := h2
    by_cases e1 : j = i
    · by_cases e2 : k = i
      · rw [e1, e2]
      · rw [if_pos e1] at h1
        rw [if_neg e2] at h2
        exact absurd h2 ((hl a h1).2.1 k e2)
    · rw [if_neg e1] at h1
      by_cases e2 : k = i
      · rw [if_pos e2] at h2
        exact absurd h1 ((hl a h2).2.1 j e1)
      · rw [if_neg e2] at h2
        exact r.dj j k a h1 h2
  · have h : a ∈ (if j = i then as else g.ow j) := h
    by_cases e : j = i
    · rw [if_pos e] at h; exact ⟨(hl a h).1, (hl a h).2.2.1⟩
    · rw [if_neg e] at h; exact r.fr j a h
  · have h : a ∈ (if j = i then as else g.ow j) := h
    by_cases e : j = i
    · rw [if_pos e] at h; exact (hl a h).2.2.2
    · rw [if_neg e] at h; exact r.old j a h
theorem StepE.ofOw {F H : Hp} {ow ow' : Nat → List Addr} (h : ∀ i a, a ∈ ow' i → a ∈ ow i) : StepE κ ⟨F, H, ow⟩ ⟨F, H, ow'⟩ := ⟨fun _ _ h _ => h, Sub.refl _, fun _ h => .inl h, h, fun _ h => h⟩
theorem Rel.setLeaf (r : Rel Γ κ H0 σ s g) {i : Nat} {v : V} {d : D} (hi : i < s.env.length) (h : Rp Γ κ g.F v d) :
    ∃ g', Rel Γ κ H0 (σ.set i (some v)) (setS s i (.leaf d)) g' ∧ StepE κ g g' ∧ g'.H = g.H := by
  refine ⟨_, r.setT hi (t := .leaf d) (v := v) (as := []) ⟨h, rfl⟩ .nil (fun a ha => by cases ha), ?_, rfl⟩
  refine StepE.ofOw fun j a ha => ?_
  by_cases e : j = i
  · rw [if_pos e] at ha; cases ha
  · rw [if_neg e] at ha; exact ha
end

/-- a target's reading: a value goes in -/
def spG (Γ : Gam) (m : B → St → R Unit) (tv : List Nat) : TG := fun v σ H Q => ∃ κ H0 s g d s', g.H = H ∧ Rel Γ κ H0 σ s g ∧ Rp Γ κ g.F v d ∧ m (.val d) s = .ok () s' ∧
  ∀ σ' g', Rel Γ κ H0 σ' s' g' → StepE κ g g' → g'.H = g.H → (∀ j, j ∉ tv → σ'[j]? = σ[j]?) → σ'.length = σ.length → Q σ' g'.H
def spGs (Γ : Gam) (ms : List Sm) (tv : List Nat) : TGs := fun vs σ H Q => ∃ κ H0 s g ds s', g.H = H ∧ Rel Γ κ H0 σ s g ∧ RpL Γ κ g.F vs ds ∧ sGs ms ds s = .ok () s' ∧
  ∀ σ' g', Rel Γ κ H0 σ' s' g' → StepE κ g g' → g'.H = g.H → (∀ j, j ∉ tv → σ'[j]? = σ[j]?) → σ'.length = σ.length → Q σ' g'.H
structure OkG (L : Law) (f : Frm) (x : Expr) (m : Sm) (tv : List Nat) : Prop where
  as : ∀ es env, assignEach (x :: es) env = (false, assign x env) :: assignEach es env
  g : ∀ W X, CxG L f W X → PG X x (spG L.Γ m.g tv)
  nox : ∀ v s c s', m.g v s ≠ .exc c s'
inductive OkGs (L : Law) (f : Frm) : List Expr → List Sm → List Nat → Prop where
  | nil : OkGs L f [] [] []
  | cons {x : Expr} {m : Sm} {xs : List Expr} {ms : List Sm} {tv tvs : List Nat} (h : OkG L f x m tv) (t : OkGs L f xs ms tvs) : OkGs L f (x :: xs) (m :: ms) (tv ++ tvs)
section
variable {L : Law} {f : Frm}
theorem g_var {i : Nat} {x : Str} {pos : Pos} (hN : f.N[i]? = some x) (hx : Loc f.sc x) (hf : f.cf x = true ∨ f.sc.names.lookup x = some .local) : OkG L f (.Name x pos) (sVar i) [i] := by
  refine ⟨fun _ _ => rfl, fun W X c => PG.imp (pg_name (i := i) (by rw [c.N]; exact c.nd) (by rw [c.N]; exact hN) (by rw [c.sc]; exact hx) (by rw [c.fn, c.sc]; exact hf)) fun v σ H Q h => ?_, fun v s cc s' => ?_⟩
  · obtain ⟨κ, H0, s, g, d, s', e, r, p, q, k⟩ := h
    subst e
    simp only [sVar] at q
    by_cases hi : i < s.env.length
    · rw [if_pos hi] at q
      cases q
      obtain ⟨g', r', st, eH⟩ := r.setLeaf hi p
      have := k (σ.set i (some v)) g' r' st eH (fun j hj => by rw [List.getElem?_set_ne]; intro z; exact hj (by simp [z])) (List.length_set ..)
      rw [eH] at this
      exact this
    · rw [if_neg hi] at q; cases q
  · simp only [sVar]
    split
    · exact fun h => nomatch h
    · exact fun h => nomatch h
theorem OkGs.pgs : ∀ {xs : List Expr} {ms : List Sm} {tv : List Nat}, OkGs L f xs ms tv → ∀ W X, CxG L f W X → PGs X xs (spGs L.Γ ms tv)
  | _, _, _, .nil, W, X, c => ⟨fun pins s σ H vs us Q I r ⟨κ, H0, s1, g, ds, s', e, rr, p, q, k⟩ => by
    cases ds with
    | nil =>
      refine pgs_nil.run pins s σ H vs us Q I r ⟨p.inv0, ?_⟩
      subst e
      cases q
      exact k σ g rr (StepE.refl _ _) rfl (fun _ _ => rfl) rfl
    | cons d ds => cases q⟩
  | _, _, _, .cons (m := m) (ms := ms) (tv := tv) (tvs := tvs) h t, W, X, c => ⟨fun pins s σ H vs us Q I r ⟨κ, H0, s1, g, ds, s', e, rr, p, q, k⟩ => by
    refine (pgs_cons (h.g W X c) (t.pgs W X c) (by rw [h.as]; rfl)).run pins s σ H vs us Q I r ?_
    subst e
    cases ds with
    | nil => cases q
    | cons d ds =>
      obtain ⟨v, vs', ev, p1, p2⟩ := p.inv
      refine ⟨v, vs', ev, κ, H0, s1, g, d, ?_⟩
      simp only [sGs] at q
      cases q1 : m.g (.val d) s1 with
      | ok u s2 =>
        rw [q1] at q
        refine ⟨s2, rfl, rr, p1, rfl, fun σ2 g2 r2 st2 e2 k2 l2 => ?_⟩
        refine ⟨κ, H0, s2, g2, ds, s', rfl, r2, RpL.mono .rfl' st2.sub _ _ p2, q, fun σ3 g3 r3 st3 e3 k3 l3 => ?_⟩
        exact k σ3 g3 r3 (st2.trans st3) (e3.trans e2) (fun j hj => by rw [k3 j fun z => hj (List.mem_append_right _ z), k2 j fun z => hj (List.mem_append_left _ z)]) (l3.trans l2)
      | exc cc s2 => rw [q1] at q; cases q
      | bad => rw [q1] at q; cases q⟩
theorem OkGs.each : ∀ {xs : List Expr} {ms : List Sm} {tv : List Nat}, OkGs L f xs ms tv → ∀ env, (assignEach xs env).length = xs.length ∧ (assignEach xs env).findIdx? (·.1) = none
  | _, _, _, .nil, env => ⟨rfl, rfl⟩
  | _, _, _, .cons h t, env => by
    obtain ⟨h1, h2⟩ := t.each env
    rw [h.as]
    refine ⟨by rw [List.length_cons, h1, List.length_cons], ?_⟩
    rw [List.findIdx?_cons]
    simp [h2]
theorem sGs_len : ∀ {ms : List Sm} {ds : List D} {s s' : St}, sGs ms ds s = .ok () s' → ds.length = ms.length
  | [], [], _, _, _ => rfl
  | [], _ :: _, _, _, h => by cases h
  | _ :: _, [], _, _, h => by cases h
  | m :: ms, d :: ds, s, s', h => by
    obtain ⟨a, s1, _, h⟩ := R.bind_ok h
    rw [List.length_cons, List.length_cons, sGs_len h]
theorem OkGs.len : ∀ {xs : List Expr} {ms : List Sm} {tv : List Nat}, OkGs L f xs ms tv → xs.length = ms.length
  | _, _, _, .nil => rfl
  | _, _, _, .cons _ t => by rw [List.length_cons, List.length_cons, t.len]
theorem OkGs.nox : ∀ {xs : List Expr} {ms : List Sm} {tv : List Nat}, OkGs L f xs ms tv → ∀ ds s c s', sGs ms ds s ≠ .exc c s'
  | _, _, _, .nil, [], s, c, s' => fun h => nomatch h
  | _, _, _, .nil, _ :: _, s, c, s' => fun h => nomatch h
  | _, _, _, .cons _ _, [], s, c, s' => fun h => nomatch h
  | _, _, _, .cons (m := m) h t, d :: ds, s, c, s' => by
    simp only [sGs]
    cases q : m.g (.val d) s with
    | ok u s2 => exact t.nox ds s2 c s'
    | exc cc s2 => exact absurd q (h.nox _ _ _ _)
    | bad => exact fun h => nomatch h
theorem g_tup {xs : List Expr} {ms : List Sm} {tv : List Nat} {k : Nat} {pos : Pos} (h : OkGs L f xs ms tv) : OkG L f (.Tuple xs k pos) (sTup ms) tv := by
  refine ⟨fun _ _ => rfl, fun W X c => ⟨fun pins s σ H v u Q I r ⟨κ, H0, s1, g, d, s', e, rr, p, q, kk⟩ => ?_⟩, fun v s cc s' => ?_⟩
  · obtain ⟨e1, e2⟩ := h.each X.env
    simp only [sTup] at q
    subst e
    cases d with
    | tup ds =>
      have q : (if ds.length = ms.length then sGs ms ds s1 else .bad) = .ok () s' := q
      have q' : sGs ms ds s1 = .ok () s' := by
        split at q
        · exact q
        · cases q
      have p' := p
      unfold Rp at p'
      obtain ⟨a, vs, ea, qa, ta⟩ := p'
      exact (pg_tup c.calm (h.pgs W X c) e1 e2).run pins s σ g.H v u Q I r ⟨a, vs, ea, by rw [c.K]; exact .inl (.inl (rr.sub a _ qa)), by rw [ta.length, sGs_len q', h.len], κ, H0, s1, g, ds, s', rfl, rr, ta, q', kk⟩
    | lst ds =>
      have q : (if ds.length = ms.length then sGs ms ds s1 else .bad) = .ok () s' := q
      have q' : sGs ms ds s1 = .ok () s' := by
        split at q
        · exact q
        · cases q
      have p' := p
      unfold Rp at p'
      obtain ⟨a, vs, ea, qa, ta⟩ := p'
      exact (pg_lst c.calm (h.pgs W X c) e1 e2).run pins s σ g.H v u Q I r ⟨a, vs, ea, .of (rr.sub a _ qa), by rw [ta.length, sGs_len q', h.len], κ, H0, s1, g, ds, s', rfl, rr, ta, q', kk⟩
    | _ => cases q
  · simp only [sTup]
    cases items? v.d with
    | none => exact fun h => nomatch h
    | some ds =>
      dsimp only
      split
      · exact h.nox ds s cc s'
      · exact fun h => nomatch h
end

/-! ### what is walked -/
/-- a later state: what was frozen is; in a comprehension nothing is changed -/
structure Later (κ : Option Addr) (fz : Bool) (g g' : Gh) : Prop where
  sub : Sub g.F g'.F
  in_ : Sub g'.F g'.H
  st : fz = false → StepE κ g g'
/-- J walks ds -/
def Itr (Γ : Gam) (κ : Option Addr) (fz : Bool) (g : Gh) (J : It) (ds : List D) : Prop := ∃ G Y, Walk J ds.length G Y ∧ (∀ g', Later κ fz g g' → G g'.H) ∧
  ∀ i d H x H', ds[i]? = some d → Y i H x H' → ∀ κ' H0 σ s g1, g1.H = H → KLe κ κ' → Rel Γ κ' H0 σ s g1 → Later κ fz g g1 → ∃ g2, g2.H = H' ∧ Rel Γ κ' H0 σ s g2 ∧ StepE κ' g1 g2 ∧ Rp Γ κ' g2.F x d
def spI (Γ : Gam) (W : WX) (fz : Bool) (m : Bool → St → R (List D)) : TI := fun σ H R => ∃ κ H0 s g, g.H = H ∧ Rel Γ κ H0 σ s g ∧ Fin Γ κ H0 σ W (m fz s) g fun ds _ g' => ∀ J, Itr Γ κ fz g' J ds → R J g'.H
structure OkI (L : Law) (f : Frm) (tg x : Expr) (m : Sm) : Prop where
  fs : ∀ env v, foldedSetIterable x env v = pure v
  i : ∀ fz W X, CxG L f W X → PI X tg x (spI L.Γ W fz m.i)
def iSeq (K : PySem.W.Frag) (tl : TE) : TI := fun σ H R => tl σ H fun x H1 => ∃ a, x = .ref a ∧ (((∃ xs, SqL K H1 a xs) ∧ R (Itl K a) H1) ∨ ((∃ xs, SqT K H1 a xs) ∧ R (Itt K a) H1))
theorem pi_seq {X : Cx} {tg l : Expr} {tl : TE} (hl : PE X l tl) : PI X tg l (iSeq X.K tl) := by
  refine ⟨fun pins s σ H R I h => ?_⟩
  refine thn (hl.run pins s σ H _ I h) fun v s1 ⟨x, H1, I1, r1, q1⟩ => ?_
  obtain ⟨a, e, q⟩ := q1
  subst e
  cases r1
  rcases q with ⟨⟨xs, hq⟩, q⟩ | ⟨⟨xs, hq⟩, q⟩
  · obtain ⟨its, rv, p, hz⟩ := I1.list hq
    refine wpAny_pyIter_list p.isList ?_
    refine ⟨s1.heap.objs.size, [s1.heap.objs.size], _, _, H1, rfl, I1.kept (t' := s1.toks) fun b o e => Heap.get?_push_of_some _ e, turn_list a _, ⟨_, Heap.get?_push_size _ rfl, rfl, rfl⟩, fun b hb => ?_, q⟩
    have e : b = s1.heap.objs.size := by simpa using hb
    subst e
    exact I1.fpOk (Nat.le_refl _) (I1.hok.fresh (Nat.le_refl _))
  · obtain ⟨its, rv, p, hz⟩ := I1.tuple hq
    refine wpAny_pyIter_tuple (show s1.heap.IsTuple a its.toArray from p) ?_
    refine ⟨s1.heap.objs.size, [s1.heap.objs.size], _, _, H1, rfl, I1.kept (t' := s1.toks) fun b o e => Heap.get?_push_of_some _ e, turn_tuple a _, ⟨_, Heap.get?_push_size _ rfl, rfl, rfl⟩, fun b hb => ?_, q⟩
    have e : b = s1.heap.objs.size := by simpa using hb
    subst e
    exact I1.fpOk (Nat.le_refl _) (I1.hok.fresh (Nat.le_refl _))
section
variable {Γ : Gam} {κ : Option Addr} {H0 : Hp} {σ : L2.St} {s : St} {g : Gh}
/-- a frozen list, a frozen tuple, walked -/
theorem itr_frz {fz : Bool} {v : V} {d : D} {ds : List D} (r : Rel Γ κ H0 σ s g) (p : Rp Γ κ g.F v d) (e : items? d = some ds) {K : PySem.W.Frag} (hK : K = Γ.K) {R : It → Hp → Prop} (h : ∀ J, Itr Γ κ fz g J ds → R J g.H) :
    ∃ a, v = .ref a ∧ (((∃ xs, SqL K g.H a xs) ∧ R (Itl K a) g.H) ∨ ((∃ xs, SqT K g.H a xs) ∧ R (Itt K a) g.H)) := by
  subst hK
  have yld : ∀ {vs : List V}, RpL Γ κ g.F vs ds → ∀ i d H x H', ds[i]? = some d → YAt vs i H x H' → ∀ κ' H0 σ s g1, g1.H = H → KLe κ κ' → Rel Γ κ' H0 σ s g1 → Later κ fz g g1 → ∃ g2, g2.H = H' ∧ Rel Γ κ' H0 σ s g2 ∧ StepE κ' g1 g2 ∧ Rp Γ κ' g2.F x d := fun {vs} t i d H x H' hd hy κ' H0 σ s g1 e1 kl r1 l => by
    obtain ⟨rfl, hx⟩ := hy
    obtain ⟨v, hv, q⟩ := t.get hd
    rw [hv] at hx; cases hx
    exact ⟨g1, e1, r1, StepE.refl _ _, Rp.mono kl l.sub _ _ q⟩
  cases d with
  | tup ds' =>
    cases e
    unfold Rp at p
    obtain ⟨a, vs, ea, q, t⟩ := p
    refine ⟨a, ea, .inr ⟨⟨vs, .inl (.inl (r.sub a _ q))⟩, h _ ⟨fun H => SqT Γ.K H a vs, YAt vs, by rw [← t.length]; exact walk_tup (xs := vs), fun g' l => .inl (.inl (l.in_ a _ (l.sub a _ q))), yld t⟩⟩⟩
  | lst ds' =>
    cases e
    unfold Rp at p
    obtain ⟨a, vs, ea, q, t⟩ := p
    refine ⟨a, ea, .inl ⟨⟨vs, .of (r.sub a _ q)⟩, h _ ⟨fun H => SqL Γ.K H a vs, YAt vs, by rw [← t.length]; exact walk_list (xs := vs), fun g' l => .of (l.in_ a _ (l.sub a _ q)), yld t⟩⟩⟩
  | _ => cases e
end
section
variable {L : Law} {f : Frm} {x tg : Expr} {b : St → R B}
theorem i_of (pl : Plain x) (h : ∀ W X, CxG L f W X → PE X x (spB L.Γ W b)) : OkI L f tg x (Sm.of b) := by
  refine ⟨pl.fs, fun fz W X c => PI.imp (pi_seq (h W X c)) fun σ H R ⟨κ, H0, s, g, e, r, q⟩ => ⟨κ, H0, s, g, e, r, q.bind fun v s1 g1 r1 st1 q1 u hu => ?_⟩⟩
  obtain ⟨g2, e2, r2, st2, p2⟩ := RB.frz' r1 st1 hu
  obtain ⟨ds, ed, q2⟩ := q1.lift
  rw [← e2]
  exact itr_frz r2 p2 ed c.K (q2 g2 r2 st2)
theorem i_var {i : Nat} {x : Str} {pos : Pos} (hN : f.N[i]? = some x) (hv : Vis f.sc x) (hd : (x == ("__debug__" : Str)) = false) (hcd : (x == ("__classdict__" : Str)) = false) : OkI L f tg (.Name x pos) (sVar i) := by
  refine ⟨fun _ _ => rfl, fun fz W X c => PI.imp (pi_seq (pe_var (i := i) (by rw [c.N]; exact hN) (by rw [c.sc]; exact hv) hd hcd)) fun σ H R ⟨κ, H0, s, g, e, r, q⟩ => ?_⟩
  subst e
  simp only [sVar] at q
  cases hs : getS s i with
  | none => rw [hs] at q; exact q.elim
  | some t =>
    rw [hs] at q
    obtain ⟨v, hv, rt⟩ := r.slot i t hs
    refine ⟨v, hv, ?_⟩
    have own : ∀ {g1 : Gh} {s1 : St} {ds : List D}, Rel L.Γ κ H0 σ s1 g1 → RT L.Γ κ g1.F g1.H v (.own ds) (g1.ow i) → (∀ J, Itr L.Γ κ false g1 J ds → R J g1.H) → ∃ a, v = .ref a ∧ (((∃ xs, SqL X.K g1.H a xs) ∧ R (Itl X.K a) g1.H) ∨ ((∃ xs, SqT X.K g1.H a xs) ∧ R (Itt X.K a) g1.H)) := fun {g1 s1 ds} r1 rt1 h1 => by
      obtain ⟨a, vs, e1, e2, q1, t1⟩ := rt1
      have ka := (r1.fr i a (by rw [e2]; simp)).2
      refine ⟨a, e1, .inl ⟨⟨vs, .of q1⟩, h1 _ ⟨fun H => SqL X.K H a vs, YAt vs, by rw [← t1.length]; exact walk_list (xs := vs), fun g' l => .of ((l.st rfl).keep a _ q1 ka), ?_⟩⟩⟩
      intro j d H x H' hd hy κ' H0' σ' s' g2 e3 kl r2 l
      obtain ⟨rfl, hx⟩ := hy
      obtain ⟨w, hw, q3⟩ := t1.get hd
      rw [hw] at hx; cases hx
      exact ⟨g2, e3, r2, StepE.refl _ _, Rp.mono kl l.sub _ _ q3⟩
    cases t with
    | leaf d =>
      obtain ⟨ds, ed, q2⟩ := q.lift
      exact itr_frz r rt.1 ed c.K (q2 g r (StepE.refl _ _))
    | own ds =>
      cases fz with
      | true =>
        obtain ⟨g1, r1, st1, e1, p1⟩ := RT.frz r hs hv rt
        rw [← e1]
        exact itr_frz r1 p1 rfl c.K (Fin.ok (b := ds) (s := setS s i (.leaf (.lst ds))) q r1 st1)
      | false => exact own r rt (Fin.ok (b := ds) (s := s) q r (StepE.refl _ _))
    | own2 dss =>
      cases fz with
      | true =>
        obtain ⟨g1, r1, st1, e1, p1⟩ := RT.frz r hs hv rt
        rw [← e1]
        exact itr_frz r1 p1 rfl c.K (Fin.ok (b := dss.map D.lst) (s := setS s i (.leaf (.lst (dss.map D.lst)))) q r1 st1)
      | false =>
        obtain ⟨g1, r1, st1, e1, rt1⟩ := RT.frzKids r hs hv rt
        rw [← e1]
        exact own r1 rt1 (Fin.ok (b := dss.map D.lst) (s := setS s i (.own (dss.map D.lst))) q r1 st1)
    | dct ks ds => exact q.elim
/-- a range -/
theorem itr_rng {Γ : Gam} {κ : Option Addr} {fz : Bool} {g : Gh} {lo : Int} {n : Nat} : Itr Γ κ fz g (L2.Itr lo n) (upTo lo n) := by
  refine ⟨fun _ => True, YFn fun i => .int (lo + i), by have := walk_range (lo := lo) (n := n); rw [show (upTo lo n).length = n by unfold upTo; simp]; exact this, fun _ _ => trivial, fun i d H x H' hd hy κ' H0 σ s g1 e1 kl r1 l => ?_⟩
  obtain ⟨rfl, rfl⟩ := hy
  refine ⟨g1, e1, r1, StepE.refl _ _, ?_⟩
  unfold upTo at hd
  rw [List.getElem?_map] at hd
  by_cases hi : i < n
  · rw [List.getElem?_range hi] at hd
    cases hd
    exact rp_int _
  · rw [List.getElem?_eq_none (by simpa using hi)] at hd
    cases hd
end
end Ev

/-! comprehensions -/
namespace Ev
open PySem PySem.Spec PyProof.Rows L2
section
variable {Γ : Gam} {κ : Option Addr} {H0 : Hp} {σ : L2.St} {s : St} {g : Gh}
theorem getS_clear {i j : Nat} : getS { s with env := s.env.set i none } j = if j = i then none else getS s j := by
  unfold getS
  by_cases e : j = i
  · subst e
    rw [if_pos rfl]
    by_cases h : j < s.env.length
    · simp [h]
    · simp [h]
  · rw [if_neg e]
    simp only []
    rw [List.getElem?_set_ne (Ne.symm e)]
theorem Rel.clear (r : Rel Γ κ H0 σ s g) (i : Nat) : Rel Γ κ H0 (σ.set i none) { s with env := s.env.set i none } ⟨g.F, g.H, fun j => if j = i then [] else g.ow j⟩ := by
  have sub : ∀ {j a}, a ∈ (if j = i then [] else g.ow j) → a ∈ g.ow j ∧ j ≠ i := fun {j a} h => by
    by_cases e : j = i
    · rw [if_pos e] at h; cases h
    · rw [if_neg e] at h; exact ⟨h, e⟩
  refine ⟨?_, fun j u h => ?_, fun j h => ?_, fun j => ?_, fun j k a h1 h2 => r.dj j k a (sub h1).1 (sub h2).1, fun j a h => r.fr j a (sub h).1, r.sub, r.cup.same (fun _ _ => rfl) fun _ _ => rfl, fun j a h => r.old j a (sub h).1, r.grow⟩
  · show (s.env.set i none).length = (σ.set i none).length
    rw [List.length_set, List.length_set]; exact r.len
  · rw [getS_clear] at h
    by_cases e : j = i
    · rw [if_pos e] at h; cases h
    · rw [if_neg e] at h
      obtain ⟨w, hw, q⟩ := r.slot j u h
      refine ⟨w, by rw [List.getElem?_set_ne (Ne.symm e)]; exact hw, ?_⟩
      show RT Γ κ g.F g.H w u (if j = i then [] else g.ow j)
      rw [if_neg e]; exact q
  · rw [getS_clear] at h
    show (if j = i then [] else g.ow j) = []
    by_cases e : j = i
    · rw [if_pos e]
    · rw [if_neg e]
      rw [if_neg e] at h
      exact r.emp j h
  · show (if j = i then [] else g.ow j).Nodup
    by_cases e : j = i
    · rw [if_pos e]; exact .nil
    · rw [if_neg e]; exact r.nd j
theorem Rel.wipe (r : Rel Γ κ H0 σ s g) : ∀ vs : List Nat, ∃ g', g'.H = g.H ∧ g'.F = g.F ∧ Rel Γ κ H0 (L2.wipe σ vs) { s with env := Ev.wipe s.env vs } g' ∧ StepE κ g g'
  | [] => ⟨g, rfl, rfl, r, StepE.refl _ _⟩
  | v :: vs => by
    obtain ⟨g1, e1, f1, r1, st1⟩ := Rel.wipe r vs
    refine ⟨⟨g1.F, g1.H, fun j => if j = v then [] else g1.ow j⟩, e1, f1, r1.clear v, st1.trans (StepE.ofOw fun j a h => ?_)⟩
    have h : a ∈ (if j = v then [] else g1.ow j) := h
    by_cases e : j = v
    · rw [if_pos e] at h; cases h
    · rw [if_neg e] at h; exact h
theorem wipe_at {env : List (Option T)} : ∀ {vs : List Nat} {v : Nat}, v ∈ vs → ((Ev.wipe env vs)[v]?).bind id = none
  | u :: vs, v, h => by
    unfold Ev.wipe
    by_cases e : v = u
    · subst e
      by_cases hl : v < (Ev.wipe env vs).length
      · simp [hl]
      · simp [hl]
    · rw [List.getElem?_set_ne (Ne.symm e)]
      exact wipe_at ((List.mem_cons.mp h).resolve_left e)
theorem wipe_outE {env : List (Option T)} : ∀ {vs : List Nat} {v : Nat}, v ∉ vs → (Ev.wipe env vs)[v]? = env[v]?
  | [], _, _ => rfl
  | u :: vs, v, h => by
    unfold Ev.wipe
    rw [List.getElem?_set_ne fun e => h (by simp [e])]
    exact wipe_outE fun z => h (List.mem_cons_of_mem _ z)
theorem wipe_lenE {env : List (Option T)} : ∀ {vs : List Nat}, (Ev.wipe env vs).length = env.length
  | [] => rfl
  | u :: vs => by unfold Ev.wipe; rw [List.length_set, wipe_lenE]
theorem back_len {old env : List (Option T)} : ∀ {vs : List Nat}, (back old env vs).length = env.length
  | [] => rfl
  | u :: vs => by unfold back; rw [List.length_set, back_len]
theorem back_in {old env : List (Option T)} (hl : old.length = env.length) : ∀ {vs : List Nat} {v : Nat}, v ∈ vs → ((back old env vs)[v]?).bind id = (old[v]?).bind id
  | u :: vs, v, h => by
    unfold back
    by_cases e : v = u
    · subst e
      by_cases hv : v < (back old env vs).length
      · simp [hv]
      · have : old.length ≤ v := by rw [hl, ← back_len (old := old) (vs := vs)]; omega
        simp [hv, this]
    · rw [List.getElem?_set_ne (Ne.symm e)]
      exact back_in hl ((List.mem_cons.mp h).resolve_left e)
theorem back_out {old env : List (Option T)} : ∀ {vs : List Nat} {v : Nat}, v ∉ vs → (back old env vs)[v]? = env[v]?
  | [], _, _ => rfl
  | u :: vs, v, h => by
    unfold back
    rw [List.getElem?_set_ne fun e => h (by simp [e])]
    exact back_out fun z => h (List.mem_cons_of_mem _ z)
theorem leafs_at : ∀ {vs : List Nat} {v : Nat}, leafs s vs = true → v ∈ vs → ∀ t, getS s v = some t → ∃ d, t = .leaf d
  | u :: vs, v, h, hv, t, ht => by
    unfold leafs at h
    rw [Bool.and_eq_true] at h
    rcases List.mem_cons.mp hv with e | e
    · subst e
      rw [ht] at h
      cases t with
      | leaf d => exact ⟨d, rfl⟩
      | own ds => exact absurd h.1 (by simp)
      | own2 ds => exact absurd h.1 (by simp)
      | dct ks ds => exact absurd h.1 (by simp)
    · exact leafs_at h.2 e t ht
theorem wipe_in {σ : L2.St} : ∀ {vs : List Nat} {v : Nat}, v ∈ vs → v < σ.length → (L2.wipe σ vs)[v]? = some none
  | u :: vs, v, h, hl => by
    unfold L2.wipe
    by_cases e : v = u
    · subst e
      rw [List.getElem?_set_self (by rw [wipe_length]; exact hl)]
    · rw [List.getElem?_set_ne (Ne.symm e)]
      exact wipe_in ((List.mem_cons.mp h).resolve_left e) hl
/-- behind a comprehension the slots are as they were -/
theorem Rel.unwipe {s2 : St} {g2 : Gh} {vs : List Nat} (r : Rel Γ κ H0 σ s g) (hl : leafs s vs = true) (st : StepE κ g g2) (r2 : Rel Γ κ H0 (L2.wipe σ vs) s2 g2) (he : ∀ v ∈ vs, getS s2 v = none) : Rel Γ κ H0 σ { s2 with env := back s.env s2.env vs } g2 := by
  have hlen : s.env.length = s2.env.length := by rw [r.len, r2.len, wipe_length]
  have inn : ∀ {v}, v ∈ vs → getS { s2 with env := back s.env s2.env vs } v = getS s v := fun {v} hv => back_in hlen hv
  have out : ∀ {v}, v ∉ vs → getS { s2 with env := back s.env s2.env vs } v = getS s2 v := fun {v} hv => by unfold getS; rw [show ({ s2 with env := back s.env s2.env vs } : St).env = back s.env s2.env vs from rfl, back_out hv]
  refine ⟨?_, fun j u h => ?_, fun j h => ?_, r2.nd, r2.dj, r2.fr, r2.sub, r2.cup, r2.old, r2.grow⟩
  · show (back s.env s2.env vs).length = σ.length
    rw [back_len, ← hlen]; exact r.len
  · by_cases e : j ∈ vs
    · rw [inn e] at h
      obtain ⟨d, rfl⟩ := leafs_at hl e u h
      obtain ⟨v, hv, q⟩ := r.slot j _ h
      exact ⟨v, hv, Rp.mono .rfl' st.sub _ _ q.1, r2.emp j (he j e)⟩
    · rw [out e] at h
      obtain ⟨v, hv, q⟩ := r2.slot j u h
      rw [L2.wipe_out e] at hv
      exact ⟨v, hv, q⟩
  · by_cases e : j ∈ vs
    · exact r2.emp j (he j e)
    · rw [out e] at h; exact r2.emp j h
/-- a loose object is changed -/
theorem Rel.updLoose (r : Rel Γ κ H0 σ s g) {p : Addr} (l : Loose κ g p) (o : HO) : Rel Γ κ H0 σ s ⟨g.F, upd g.H p o, g.ow⟩ := by
  have ne : ∀ {i a}, a ∈ g.ow i → a ≠ p := fun {i a} h e => l.2.1 i (e ▸ h)
  refine ⟨r.len, fun j u h => ?_, r.emp, r.nd, r.dj, r.fr, fun a u h => ?_, r.cup.same (fun _ _ => rfl) fun a e => upd_ne fun z => l.2.2 (z ▸ e), r.old, fun a h => ?_⟩
  · obtain ⟨v, hv, q⟩ := r.slot j u h
    exact ⟨v, hv, RT.mono .rfl' (Sub.refl _) (fun a ha => upd_ne (ne ha)) q⟩
  · show upd g.H p o a = some u
    rw [upd_ne fun z => by rw [z, l.1] at h; cases h]
    exact r.sub a u h
  · show upd g.H p o a ≠ none
    by_cases e : a = p
    · rw [e, upd_same]; exact fun z => nomatch z
    · rw [upd_ne e]; exact r.grow a h
/-- what a comprehension has gathered -/
structure AccOk (Γ : Gam) (κ : Option Addr) (Hb : Hp) (g : Gh) (vs : List V) (bs : List B) : Prop where
  len : vs.length = bs.length
  at_ : ∀ (i : Nat) (v : V) (b : B), vs[i]? = some v → bs[i]? = some b → RB Γ κ Hb g v b
  ne : ∀ (i j : Nat) (a : Addr) (xs ys : List D), vs[i]? = some (.ref a) → bs[i]? = some (.new xs) → vs[j]? = some (.ref a) → bs[j]? = some (.new ys) → i = j
theorem AccOk.nil {Hb : Hp} : AccOk Γ κ Hb g [] [] := ⟨rfl, fun _ _ _ h => by simp at h, fun _ _ _ _ _ h => by simp at h⟩
theorem AccOk.vals {Hb : Hp} : ∀ {vs : List V} {bs : List B} {ds : List D}, (∀ (i : Nat) (v : V) (b : B), vs[i]? = some v → bs[i]? = some b → RB Γ κ Hb g v b) → vs.length = bs.length → vals? bs = some ds → RpL Γ κ g.F vs ds
  | vs, [], ds, h, hl, e => by cases e; rw [List.eq_nil_of_length_eq_zero hl]; exact .nil
  | [], _ :: _, ds, h, hl, e => by cases hl
  | v :: vs, .val d :: bs, ds, h, hl, e => by
    simp only [vals?] at e
    cases q : vals? bs with
    | none => rw [q] at e; cases e
    | some ds' =>
      rw [q] at e
      cases e
      exact .cons (h 0 v (.val d) rfl rfl) (AccOk.vals (fun i v b hv hb => h (i + 1) v b (by simpa using hv) (by simpa using hb)) (by simpa using hl) q)
  | v :: vs, .new _ :: bs, ds, h, hl, e => by cases e
  | v :: vs, .new2 _ :: bs, ds, h, hl, e => by cases e
theorem news_at : ∀ {bs : List B} {dss : List (List D)} {j : Nat}, news? bs = some dss → j < bs.length → ∃ ys, bs[j]? = some (.new ys)
  | .new ys :: bs, dss, 0, _, _ => ⟨ys, rfl⟩
  | .new ys :: bs, dss, j + 1, e, h => by
    simp only [news?] at e
    cases q : news? bs with
    | none => rw [q] at e; cases e
    | some z => simpa using news_at q (j := j) (by simpa using h)
  | .val _ :: bs, dss, _, e, _ => by cases e
  | .new2 _ :: bs, dss, _, e, _ => by cases e
theorem AccOk.news {Hb : Hp} : ∀ {vs : List V} {bs : List B} {dss : List (List D)}, AccOk Γ κ Hb g vs bs → news? bs = some dss → ∃ as : List Addr, vs = as.map V.ref ∧ Rows Γ κ g.F g.H as dss ∧ (∀ b ∈ as, Hb b = none ∧ Loose κ g b) ∧ as.Nodup
  | vs, [], dss, h, e => by
    cases e
    rw [List.eq_nil_of_length_eq_zero h.len]
    refine ⟨[], rfl, by unfold Rows; rfl, ?_, List.Pairwise.nil⟩
    intro b hb
    cases hb
  | [], _ :: _, dss, h, e => by cases h.len
  | v :: vs, .new ds :: bs, dss, h, e => by
    simp only [news?] at e
    cases q : news? bs with
    | none => rw [q] at e; cases e
    | some dss' =>
      rw [q] at e
      cases e
      have t : AccOk Γ κ Hb g vs bs := ⟨by simpa using h.len, fun i v b hv hb => h.at_ (i + 1) v b (by simpa using hv) (by simpa using hb), fun i j a xs ys h1 h2 h3 h4 => by
        have := h.ne (i + 1) (j + 1) a xs ys (by simpa using h1) (by simpa using h2) (by simpa using h3) (by simpa using h4)
        omega⟩
      obtain ⟨as, e1, rw1, l1, nd1⟩ := t.news q
      obtain ⟨a, ws, ev, qa, ta, n, l⟩ := h.at_ 0 v (.new ds) rfl rfl
      refine ⟨a :: as, by rw [ev, e1]; rfl, by unfold Rows; exact ⟨a, as, ws, rfl, qa, ta, rw1⟩, fun b hb => ?_, List.nodup_cons.mpr ⟨fun ha => ?_, nd1⟩⟩
      · rcases List.mem_cons.mp hb with z | z
        · rw [z]; exact ⟨n, l⟩
        · exact l1 b z
      · obtain ⟨j, hj⟩ := List.getElem?_of_mem ha
        have hv : (v :: vs)[j + 1]? = some (V.ref a) := by rw [e1]; simpa using hj
        have hlen : j < bs.length := by
          have h1 := (List.getElem?_eq_some_iff.mp hj).1
          have h2 := t.len
          rw [e1, List.length_map] at h2
          omega
        have := news_at q hlen
        obtain ⟨ys, hb⟩ := this
        have := h.ne 0 (j + 1) a ds ys (by rw [ev]; rfl) rfl hv (by simpa using hb)
        omega
  | v :: vs, .val _ :: bs, dss, h, e => by cases e
  | v :: vs, .new2 _ :: bs, dss, h, e => by cases e
/-- .. one more -/
theorem AccOk.snoc {Hb : Hp} {g2 : Gh} {vs : List V} {bs : List B} {v : V} {b : B} (h : AccOk Γ κ Hb g vs bs) (st : StepE κ g g2) (r : Rel Γ κ H0 σ s g) {H1 : Hp} (h1 : ∀ a, Hb a ≠ none → H1 a ≠ none) (h1' : ∀ a, g.H a ≠ none → H1 a ≠ none) (hb : RB Γ κ H1 g2 v b) : AccOk Γ κ Hb g2 (vs ++ [v]) (bs ++ [b]) := by
  have old : ∀ (i : Nat) (v : V) (b : B), vs[i]? = some v → bs[i]? = some b → RB Γ κ Hb g2 v b := fun i v b hv hb => (h.at_ i v b hv hb).step st r fun a l hn => l.step st hn
  have last : ∀ {α : Type} {l : List α} {x : α} {i : Nat} {y : α}, (l ++ [x])[i]? = some y → (l[i]? = some y ∧ i < l.length) ∨ (i = l.length ∧ y = x) := fun {α l x i y} e => by
    by_cases hi : i < l.length
    · rw [List.getElem?_append_left hi] at e; exact .inl ⟨e, hi⟩
    · rw [List.getElem?_append_right (by omega)] at e
      by_cases h0 : i - l.length = 0
      · rw [h0] at e; simp at e; exact .inr ⟨by omega, e.symm⟩
      · rw [List.getElem?_eq_none (by simp; omega)] at e; cases e
  refine ⟨by rw [List.length_append, List.length_append, h.len]; rfl, fun i w c hw hc => ?_, fun i j a xs ys e1 e2 e3 e4 => ?_⟩
  · rcases last hw with ⟨p, pi⟩ | ⟨p, q⟩
    · rcases last hc with ⟨p', _⟩ | ⟨p', _⟩
      · exact old i w c p p'
      · rw [h.len] at pi; omega
    · rcases last hc with ⟨_, p'⟩ | ⟨_, q'⟩
      · rw [← h.len] at p'; omega
      · subst q q'; exact hb.old h1
  · have was : ∀ {i : Nat} {xs : List D}, vs[i]? = some (V.ref a) → bs[i]? = some (.new xs) → g.H a ≠ none := fun {i xs} p q => by
      obtain ⟨a', ws, ea, qa, _⟩ := h.at_ i _ _ p q
      cases ea
      rw [qa]; exact fun z => nomatch z
    have new : ∀ {xs : List D}, v = V.ref a → b = .new xs → g.H a = none := fun {xs} p q => by
      subst p q
      obtain ⟨a', ws, ea, qa, ta, n, l⟩ := hb
      cases ea
      exact Classical.byContradiction fun z => h1' _ z n
    rcases last e1 with ⟨p1, l1⟩ | ⟨p1, q1⟩
    · rcases last e3 with ⟨p3, l3⟩ | ⟨p3, q3⟩
      · rcases last e2 with ⟨p2, _⟩ | ⟨p2, _⟩
        · rcases last e4 with ⟨p4, _⟩ | ⟨p4, _⟩
          · exact h.ne i j a xs ys p1 p2 p3 p4
          · rw [h.len] at l3; omega
        · rw [h.len] at l1; omega
      · rcases last e2 with ⟨p2, _⟩ | ⟨p2, _⟩
        · rcases last e4 with ⟨_, p4⟩ | ⟨_, q4⟩
          · rw [← h.len] at p4; omega
          · exact absurd (new q3.symm q4.symm) (was p1 p2)
        · rw [h.len] at l1; omega
    · rcases last e3 with ⟨p3, l3⟩ | ⟨p3, q3⟩
      · rcases last e4 with ⟨p4, _⟩ | ⟨p4, _⟩
        · rcases last e2 with ⟨_, p2⟩ | ⟨_, q2⟩
          · rw [← h.len] at p2; omega
          · exact absurd (new q1.symm q2.symm) (was p3 p4)
        · rw [h.len] at l3; omega
      · omega
/-- .. the heap changed elsewhere -/
theorem AccOk.upd {Hb : Hp} {vs : List V} {bs : List B} {p : Addr} {o : HO} (h : AccOk Γ κ Hb g vs bs) (hp : Hb p ≠ none) : AccOk Γ κ Hb ⟨g.F, L2.upd g.H p o, g.ow⟩ vs bs := by
  have ne : ∀ {a}, Hb a = none → a ≠ p := fun {a} q e => hp (e ▸ q)
  refine ⟨h.len, fun i v b hv hb => ?_, h.ne⟩
  have q := h.at_ i v b hv hb
  cases b with
  | val d => exact q
  | new ds =>
    obtain ⟨a, ws, ea, qa, ta, n, l⟩ := q
    exact ⟨a, ws, ea, (upd_ne (ne n)).trans qa, ta, n, l⟩
  | new2 dss =>
    obtain ⟨a, as, ea, qa, ta, l, nd⟩ := q
    exact ⟨a, as, ea, (upd_ne (ne (l a List.mem_cons_self).1)).trans qa, Rows.mono .rfl' (Sub.refl _) (fun b hb => upd_ne (ne (l b (List.mem_cons_of_mem _ hb)).1)) ta, l, nd⟩
  | newd ks ds =>
    obtain ⟨a, ws, ea, qa, ek, ta, n, l⟩ := q
    exact ⟨a, ws, ea, (upd_ne (ne n)).trans qa, ek, ta, n, l⟩
end
end Ev

/-! ranges; comprehensions -/
namespace Ev
open PySem PySem.Spec PyProof.Rows L2
section
variable {L : Law} {f : Frm} {x y tg : Expr} {mx my : Sm} {pos p : Pos}
theorem i_rng (hx : OkE L f x mx) (hg : f.sc.names.lookup ("range" : Str) = some .globalImplicit) (hm : L.mg "range" = none) : OkI L f tg (.Call (.Name "range" p) [x] [] pos) (sRng mx) := by
  refine ⟨fun _ _ => rfl, fun fz W X c => ?_⟩
  have ha : PA X [x] (tCons (spP L.Γ W mx.p) tNil) := pa_cons (hx.p W X c) pa_nil (hx.pl.st _ _)
  refine PI.imp (pi_range1 (show X.env.scope.names.lookup _ = _ by rw [c.sc]; exact hg) (by rw [c.mg]; exact hm) ha (hx.pl.st _ _)) fun σ H R ⟨κ, H0, s, g, e, r, q⟩ => ⟨κ, H0, s, g, e, r, q.bind fun d s1 g1 r1 st1 q1 v hv => ?_⟩
  cases d with
  | int n =>
    have q1 : Fin L.Γ κ H0 σ W (if small n ∧ n ≤ big then Ev.R.ok (upTo 0 n.toNat) s1 else .bad) g fun ds _ g' => ∀ J, Itr L.Γ κ fz g' J ds → R J g'.H := q1
    by_cases hn : small n ∧ n ≤ big
    · rw [if_pos hn] at q1
      have hs := hn.1
      unfold small at hs
      simp only [Bool.and_eq_true, decide_eq_true_eq] at hs
      exact ⟨n, by rw [hv.int], hs.1, hs.2, q1.ok r1 st1 _ itr_rng⟩
    · rw [if_neg hn] at q1; exact q1.elim
  | _ => exact q1.elim
theorem i_rng2 (hx : OkE L f x mx) (hy : OkE L f y my) (hg : f.sc.names.lookup ("range" : Str) = some .globalImplicit) (hm : L.mg "range" = none) : OkI L f tg (.Call (.Name "range" p) [x, y] [] pos) (sRng2 mx my) := by
  refine ⟨fun _ _ => rfl, fun fz W X c => ?_⟩
  have ha : PA X [x, y] (tCons (spP L.Γ W mx.p) (tCons (spP L.Γ W my.p) tNil)) := pa_cons (hx.p W X c) (pa_cons (hy.p W X c) pa_nil (hy.pl.st _ _)) (hx.pl.st _ _)
  refine PI.imp (pi_range2 (show X.env.scope.names.lookup _ = _ by rw [c.sc]; exact hg) (by rw [c.mg]; exact hm) ha (by rw [hx.pl.st, hy.pl.st]; rfl) (hy.pl.st _ _)) fun σ H R ⟨κ, H0, s, g, e, r, q⟩ => ⟨κ, H0, s, g, e, r, q.bind fun d s1 g1 r1 st1 q1 v hv => ⟨κ, H0, s1, g1, rfl, r1, (q1.later st1).bind fun d' s2 g2 r2 st2 q2 u hu => ?_⟩⟩
  cases d with
  | int m =>
    cases d' with
    | int n =>
      have q2 : Fin L.Γ κ H0 σ W (if small m ∧ small n ∧ n - m ≤ big then Ev.R.ok (upTo m (n - m).toNat) s2 else .bad) g1 fun ds _ g' => ∀ J, Itr L.Γ κ fz g' J ds → R J g'.H := q2
      by_cases hn : small m ∧ small n ∧ n - m ≤ big
      · rw [if_pos hn] at q2
        have hs := hn.1
        have ht := hn.2.1
        unfold small at hs ht
        simp only [Bool.and_eq_true, decide_eq_true_eq] at hs ht
        exact ⟨m, n, by rw [hv.int, hu.int], ⟨hs.1, hs.2, ht.1, ht.2⟩, q2.ok r2 st2 _ itr_rng⟩
      · rw [if_neg hn] at q2; exact q2.elim
    | _ => exact q2.elim
  | _ => exact q2.elim
end

/-- the tests of a clause -/
def OkC (L : Law) (f : Frm) (ifs : List Expr) (m : Sm) : Prop := (ifs = [] ∧ m = sCon (.bl true)) ∨ ∃ x, ifs = [x] ∧ OkE L f x m
theorem OkC.pts {L : Law} {f : Frm} {ifs : List Expr} {m : Sm} (h : OkC L f ifs m) (W : WX) (X : Cx) (c : CxG L f W X) : PTs X ifs (spT L.Γ W m.t) := by
  rcases h with ⟨rfl, rfl⟩ | ⟨x, rfl, h⟩
  · refine ⟨fun pins s σ H Q I ⟨κ, H0, s1, g, e, r, q⟩ => pts_nil.run pins s σ H Q I ?_⟩
    subst e
    exact Fin.ok (b := true) (s := s1) q r (StepE.refl _ _)
  · exact pts_one (h.t W X c)
abbrev Frm.blk (f : Frm) (scope : Scope) : Frm := { n := f.n, N := f.N, sc := relS scope f.sc, cf := fun x => scope.names.lookup x == some .cell, top := false }
theorem CxG.blk {L : Law} {f : Frm} {W : WX} {X : Cx} (c : CxG L f W X) (scope : Scope) (s : Shared) (H : Hp) (C : Addr) (cl : List (Str × Addr)) (fp : List Addr) : CxG L (f.blk scope) (fun _ _ _ _ => False) (X.blk s H scope (compEnvC scope cl C X.env) fp) where
  prog := c.prog
  w := c.w
  K := c.K
  mg := c.mg
  base := c.base
  N := c.N
  nd := c.nd
  sc := by
    show relS scope X.env.scope = relS scope f.sc
    rw [c.sc]
  fn := rfl
  calm := c.calm
  room := c.room
  tk := takes0
  po := PassesOwn.never
  top := fun z => nomatch z
theorem calm_ok {α : Type} {r : R α} {a : α} {s : St} (h : Ev.calm r = .ok a s) : r = .ok a s := by
  cases r with
  | ok b s' => exact h
  | exc c s' => cases h
  | bad => cases h
theorem calm_no {α : Type} {r : R α} {c : Nat} {s : St} : Ev.calm r ≠ .exc c s := by
  cases r with
  | ok b s' => exact fun h => nomatch h
  | exc c' s' => exact fun h => nomatch h
  | bad => exact fun h => nomatch h
section
variable {L : Law} {f : Frm}
theorem comp_imp {scope : Scope} {W : WX} {vs tv : List Nat} {tgx itx : Expr} {mg mi mc me : Sm} {tt : TT} (hv : ∀ v ∈ tv, v ∈ vs) (hgn : ∀ v s c s', mg.g v s ≠ .exc c s')
    : ∀ σ H Q, spB L.Γ W (sComp vs mg mi mc me).b σ H Q → tLc (spI L.Γ W false mi.i) (spG L.Γ mg.g tv) (spT L.Γ (fun _ _ _ _ => False) mc.t) (spB L.Γ (fun _ _ _ _ => False) me.b) vs σ H Q := by
  intro σ H Q ⟨κ, H0, s, g, e, r, q⟩
  subst e
  refine ⟨κ, H0, s, g, rfl, r, q.bind fun ds s1 g1 r1 st1 q1 J hJ D hD => ?_⟩
  obtain ⟨G, Y, w, stay, yld⟩ := hJ
  -- the turns come to an end
  by_cases hlf : (leafs s1 vs && decide (ds.length ≤ big)) = true
  · have hl := (Bool.and_eq_true _ _ ▸ hlf).1
    have hz : ds.length ≤ big := of_decide_eq_true (Bool.and_eq_true _ _ ▸ hlf).2
    simp only [hlf, if_true] at q1
    cases hc : Ev.calm (turns vs mg.g mc.t me.b ds [] { s1 with env := Ev.wipe s1.env vs }) with
    | exc c s' => 
      exact absurd hc calm_no
    | bad => rw [hc] at q1; exact q1.elim
    | ok acc s2 =>
      rw [hc] at q1
      have ht := calm_ok hc
      have q2 : Fin L.Γ κ H0 σ W (lift (gather acc) { s2 with env := back s1.env s2.env vs }) g fun b _ g' => ∀ v, RB L.Γ κ g.H g' v b → Q v g'.H := q1
      obtain ⟨bb, eb, q3⟩ := q2.lift
      obtain ⟨gw, ew, fw, rw', stw⟩ := Rel.wipe r1 vs
      have hDw : gw.H D = none := by rw [ew]; exact hD
      obtain ⟨r3, st3, l3⟩ := rw'.laid hDw (.lst [])
      -- what holds at turn i
      let Pv : Nat → Hp → Prop := fun i H' => ∃ si gi ai vi, gi.H = H' ∧ Rel L.Γ κ H0 (L2.wipe σ vs) si gi ∧ StepE κ g1 gi ∧ gi.H D = some (.lst vi) ∧ Loose κ gi D ∧ AccOk L.Γ κ (L2.upd g1.H D (.lst [])) gi vi ai ∧ ai.length ≤ i ∧
        (∀ v ∈ vs, getS si v = none) ∧ turns vs mg.g mc.t me.b (ds.drop i) ai si = .ok acc s2
      refine lc_it w Pv ?_ ?_ ?_ ?_
      · refine ⟨_, _, [], [], ?_, r3, stw.trans st3, upd_same, l3, AccOk.nil, Nat.le_refl _, fun v hv => wipe_at hv, by rw [List.drop_zero]; exact ht⟩
        show L2.upd gw.H D (.lst []) = L2.upd g1.H D (.lst [])
        rw [ew]
      · rintro i H' _ ⟨si, gi, ai, vi, rfl, ri, sti, _⟩
        exact stay gi ⟨sti.sub, ri.sub, fun _ => sti⟩
      · rintro i x H1 H' hi ⟨si, gi, ai, vi, rfl, ri, sti, hDi, li, ac, hal, hem, hti⟩ hY
        have hd : ds[i]? = some ds[i] := by simp [hi]
        obtain ⟨g2, e2, r2, st2, p2⟩ := yld i ds[i] gi.H x H' hd hY κ H0 _ si gi rfl .rfl' ri ⟨sti.sub, ri.sub, fun _ => sti⟩
        rw [List.drop_eq_getElem_cons hi] at hti
        simp only [turns] at hti
        obtain ⟨_, sa, hga, hti⟩ := R.bind_ok hti
        obtain ⟨k, sb, hcb, hti⟩ := R.bind_ok hti
        refine ⟨κ, H0, si, g2, ds[i], sa, e2, r2, p2, hga, fun σ' g' r' st' eH k' l' => ?_⟩
        have hw : L2.wipe σ' vs = L2.wipe σ vs := by
          apply List.ext_getElem?
          intro j
          by_cases hj : j ∈ vs
          · by_cases hjl : j < σ.length
            · rw [wipe_in hj hjl, wipe_in hj (by rw [l', wipe_length]; exact hjl)]
            · rw [List.getElem?_eq_none (by rw [wipe_length, l', wipe_length]; omega), List.getElem?_eq_none (by rw [wipe_length]; omega)]
          · rw [L2.wipe_out hj, k' j fun z => hj (hv j z)]
        have st12 : StepE κ gi g' := st2.trans st'
        refine ⟨hw, κ, H0, sa, g', rfl, r', ?_⟩
        rw [hcb]
        intro g3 r4 st4
        have keepD : ∀ {gg : Gh}, StepE κ gi gg → gg.H D = some (.lst vi) := fun {gg} z => z.keep D _ hDi li.2.2
        cases k with
        | true =>
          simp only at hti
          obtain ⟨v, sc, hev, hti⟩ := R.bind_ok hti
          refine iteT ⟨κ, H0, sb, g3, rfl, r4, ?_⟩
          rw [hev]
          intro g4 r5 st5 y hy
          have st14 : StepE κ gi g4 := (st12.trans st4).trans st5
          have l4 : Loose κ g4 D := li.step st14 (by rw [hDi]; exact .l)
          have hlen : vi.length < sizeLine := by rw [ac.len, ← big_eq]; omega
          refine ⟨vi, keepD st14, hlen, ?_⟩
          have r6 := r5.updLoose l4 (.lst (vi ++ [y]))
          have l6 : Loose κ (⟨g4.F, L2.upd g4.H D (.lst (vi ++ [y])), g4.ow⟩ : Gh) D := ⟨l4.1, l4.2.1, l4.2.2⟩
          have st6 : StepE κ g1 ⟨g4.F, L2.upd g4.H D (.lst (vi ++ [y])), g4.ow⟩ := by
            have z := sti.trans st14
            refine ⟨fun a o h n => ?_, z.sub, z.new, z.ow, fun a h => ?_⟩
            · show L2.upd g4.H D _ a = some o
              rw [upd_ne fun q => by rw [q, hD] at h; cases h]
              exact z.keep a o h n
            · show L2.upd g4.H D _ a ≠ none
              by_cases q : a = D
              · rw [q, upd_same]; exact fun z => nomatch z
              · rw [upd_ne q]; exact z.there a h
          obtain ⟨g7, e7, f7, r7, st7⟩ := Rel.wipe r6 vs
          rw [hw] at r7
          have ac1 : AccOk L.Γ κ (L2.upd g1.H D (.lst [])) g4 (vi ++ [y]) (ai ++ [v]) := ac.snoc (H1 := g3.H) st14 ri (fun a h => ?_) (fun a h => (st12.trans st4).there a h) hy
          · have ac2 := ac1.upd (p := D) (o := .lst (vi ++ [y])) (by rw [upd_same]; exact fun z => nomatch z)
            have ac3 : AccOk L.Γ κ (L2.upd g1.H D (.lst [])) g7 (vi ++ [y]) (ai ++ [v]) := ⟨ac2.len, fun i v b h1 h2 => (ac2.at_ i v b h1 h2).step st7 r6 fun a l hn => l.step st7 hn, ac2.ne⟩
            refine ⟨{ sc with env := Ev.wipe sc.env vs }, g7, ai ++ [v], vi ++ [y], e7, r7, st6.trans st7, by rw [e7]; exact upd_same, l6.step st7 (by show NT (L2.upd g4.H D _ D); rw [upd_same]; exact .l), ac3, ?_, fun v hv => wipe_at hv, hti⟩
            rw [List.length_append]
            exact Nat.succ_le_succ hal
          · by_cases q : a = D
            · rw [q]; rw [keepD (st12.trans st4)]; exact fun z => nomatch z
            · rw [upd_ne q] at h
              exact (st12.trans st4).there a (sti.there a h)
        | false =>
          simp only at hti
          refine iteF ?_
          have st13 : StepE κ gi g3 := st12.trans st4
          obtain ⟨g7, e7, f7, r7, st7⟩ := Rel.wipe r4 vs
          rw [hw] at r7
          have ac3 : AccOk L.Γ κ (L2.upd g1.H D (.lst [])) g7 vi ai := ⟨ac.len, fun i v b h1 h2 => (ac.at_ i v b h1 h2).step (st13.trans st7) ri fun a l hn => l.step (st13.trans st7) hn, ac.ne⟩
          exact ⟨{ sb with env := Ev.wipe sb.env vs }, g7, ai, vi, e7, r7, sti.trans (st13.trans st7), keepD (st13.trans st7), li.step (st13.trans st7) (by rw [hDi]; exact .l), ac3, Nat.le_succ_of_le hal, fun v hv => wipe_at hv, hti⟩
      · rintro H' ⟨si, gi, ai, vi, rfl, ri, sti, hDi, li, ac, hal, hem, hti⟩
        rw [List.drop_eq_nil_of_le (Nat.le_refl _)] at hti
        cases hti
        have rb := r1.unwipe hl sti ri hem
        refine q3 gi rb (st1.trans sti) (.ref D) ?_
        have old : ∀ {a}, g1.H a = none → g.H a = none := fun {a} h => Classical.byContradiction fun z => st1.there a z h
        have hDg : g.H D = none := old hD
        unfold gather at eb
        cases qv : vals? acc with
        | some es =>
          rw [qv] at eb
          cases eb
          exact ⟨D, vi, rfl, hDi, AccOk.vals ac.at_ ac.len qv, hDg, li⟩
        | none =>
          rw [qv] at eb
          cases qn : news? acc with
          | none => rw [qn] at eb; cases eb
          | some dss =>
            rw [qn] at eb
            cases eb
            obtain ⟨as, ea, rws, la, nda⟩ := ac.news qn
            have hne : ∀ b ∈ as, b ≠ D ∧ g1.H b = none := fun b hb => by
              have := (la b hb).1
              by_cases q : b = D
              · rw [q, upd_same] at this; cases this
              · rw [upd_ne q] at this; exact ⟨q, this⟩
            refine ⟨D, as, rfl, by rw [hDi, ea], rws, fun b hb => ?_, List.nodup_cons.mpr ⟨fun h => (hne D h).1 rfl, nda⟩⟩
            rcases List.mem_cons.mp hb with z | z
            · rw [z]; exact ⟨hDg, li⟩
            · exact ⟨old (hne b z).2, (la b z).2⟩
  · simp only [hlf, if_false] at q1
    exact q1.elim
/-- what a comprehension's parts must be -/
structure OkComp (L : Law) (f : Frm) (elt tg iter : Expr) (ifs : List Expr) (scope : Scope) (vs : List Nat) (mg mi mc me : Sm) : Prop where
  own : ∃ own : List (Str × Nat), own.map (·.2) = vs ∧ blkC f.N f.sc scope own = true
  it : OkI L f tg iter mi
  g : ∃ tv, (∀ v ∈ tv, v ∈ vs) ∧ OkG L (f.blk scope) tg mg tv
  c : OkC L (f.blk scope) ifs mc
  e : OkE L (f.blk scope) elt me
theorem OkComp.pe {elt tg iter : Expr} {ifs : List Expr} {scope : Scope} {vs : List Nat} {mg mi mc me : Sm} {pos : Pos} (h : OkComp L f elt tg iter ifs scope vs mg mi mc me) (W : WX) (X : Cx) (c : CxG L f W X) : PE X (.ListComp elt [⟨tg, iter, ifs, 0⟩] scope pos) (spB L.Γ W (sComp vs mg mi mc me).b) := by
  obtain ⟨⟨own, rfl, hb⟩, hi, ⟨tv, htv, hg⟩, hc, he⟩ := h
  refine PE.imp (pe_lc c.calm (by rw [c.N]; exact c.nd) (hi.i false W X c) (blkOk_by (own := own) (by rw [c.N, c.sc]; exact hb)) (fun s H C cl fp => hg.g _ _ (c.blk scope s H C cl fp)) (fun s H C cl fp => hc.pts _ _ (c.blk scope s H C cl fp)) (fun s H C cl fp => he.b _ _ (c.blk scope s H C cl fp)) (hi.fs _)) ?_
  exact comp_imp (scope := scope) (tgx := tg) (itx := iter) (tt := fun _ _ _ => False) htv hg.nox
theorem ok_comp {elt tg iter : Expr} {ifs : List Expr} {scope : Scope} {vs : List Nat} {mg mi mc me : Sm} {pos : Pos} (h : OkComp L f elt tg iter ifs scope vs mg mi mc me) : OkE L f (.ListComp elt [⟨tg, iter, ifs, 0⟩] scope pos) (sComp vs mg mi mc me) :=
  OkE.of ⟨fun _ _ => rfl, fun _ _ => rfl, fun _ => rfl, fun _ _ => rfl, fun _ _ _ _ h => nomatch h⟩ (fun W X c => h.pe W X c) fun _ _ => rfl
end
end Ev

/-! comprehensions of two clauses -/
namespace Ev
open PySem PySem.Spec PyProof.Rows L2
theorem turns_ge {vs : List Nat} {g : B → St → R Unit} {c : St → R Bool} {e : St → R B} : ∀ (xs : List D) (acc a2 : List B) (s s2 : St), turns vs g c e xs acc s = .ok a2 s2 → acc.length ≤ a2.length
  | [], acc, a2, s, s2, h => by cases h; exact Nat.le_refl _
  | x :: xs, acc, a2, s, s2, h => by
    simp only [turns] at h
    obtain ⟨_, sa, _, h⟩ := R.bind_ok h
    obtain ⟨k, sb, _, h⟩ := R.bind_ok h
    cases k with
    | true =>
      obtain ⟨v, sc, _, h⟩ := R.bind_ok h
      have := turns_ge xs _ a2 _ s2 h
      rw [List.length_append] at this
      exact Nat.le_trans (Nat.le_add_right _ _) this
    | false => exact turns_ge xs _ a2 _ s2 h
theorem turns2_ge {vs vs1 : List Nat} {g : B → St → R Unit} {c : St → R Bool} {i1 : St → R (List D)} {g1 : B → St → R Unit} {c1 : St → R Bool} {e : St → R B} : ∀ (xs : List D) (acc a2 : List B) (s s2 : St), turns2 vs vs1 g c i1 g1 c1 e xs acc s = .ok a2 s2 → acc.length ≤ a2.length
  | [], acc, a2, s, s2, h => by cases h; exact Nat.le_refl _
  | x :: xs, acc, a2, s, s2, h => by
    simp only [turns2] at h
    obtain ⟨_, sa, _, h⟩ := R.bind_ok h
    obtain ⟨k, sb, _, h⟩ := R.bind_ok h
    cases k with
    | true =>
      obtain ⟨v, sc, _, h⟩ := R.bind_ok h
      obtain ⟨b, sd, h1, h⟩ := R.bind_ok h
      exact Nat.le_trans (turns_ge _ _ _ _ _ h1) (turns2_ge xs _ a2 _ s2 h)
    | false => exact turns2_ge xs _ a2 _ s2 h
section
variable {L : Law} {f : Frm}
/-- the turns of a clause over J, from a list at D that has items: what holds behind them all; gB: before there was D -/
theorem turn_loop {κ : Option Addr} {H0 : Hp} {σ : L2.St} {vs tv : List Nat} {mg mc me : Sm} (hv : ∀ v ∈ tv, v ∈ vs) {J : It} {ds : List D} {G : Hp → Prop} {Y : Nat → Hp → V → Hp → Prop} {gB gJ gs : Gh} {s1 s2 : St} {D : Addr} {a0 acc : List B} {v0 : List V} {Hb : Hp}
    (w : Walk J ds.length G Y) (stay : ∀ g', Later κ true gJ g' → G g'.H)
    (yld : ∀ i d H x H', ds[i]? = some d → Y i H x H' → ∀ κ' H0 σ s g2, g2.H = H → KLe κ κ' → Rel L.Γ κ' H0 σ s g2 → Later κ true gJ g2 → ∃ g3, g3.H = H' ∧ Rel L.Γ κ' H0 σ s g3 ∧ StepE κ' g2 g3 ∧ Rp L.Γ κ' g3.F x d)
    (hJ : Sub gJ.F gs.F) (r0 : Rel L.Γ κ H0 (L2.wipe σ vs) s1 gs) (stB : StepE κ gB gs) (hDB : gB.H D = none) (hD0 : gs.H D = some (.lst v0)) (li0 : Loose κ gs D) (ac0 : AccOk L.Γ κ Hb gs v0 a0) (hHb : ∀ a, Hb a ≠ none → a = D ∨ gB.H a ≠ none) (hbD : Hb D ≠ none)
    (hbig : acc.length ≤ big) (em : ∀ v ∈ vs, getS s1 v = none) (ht : turns vs mg.g mc.t me.b ds a0 s1 = .ok acc s2) {Qd : Hp → Prop}
    (done : ∀ g2 v2, Rel L.Γ κ H0 (L2.wipe σ vs) s2 g2 → StepE κ gB g2 → g2.H D = some (.lst v2) → Loose κ g2 D → AccOk L.Γ κ Hb g2 v2 acc → (∀ v ∈ vs, getS s2 v = none) → Qd g2.H) :
    ∃ W : Nat → Nat → Hp → Prop, (∃ m, W 0 m gs.H) ∧ ∀ i m H, W i m H → (J.stop i H ∧ Qd H) ∨ (J.go i H ∧ ∃ Nx : Hp → Prop, (∀ H', Nx H' → ∃ m', m' < m ∧ W (i + 1) m' H') ∧
      ∀ x H', J.yld i H x H' → spG L.Γ mg.g tv x (L2.wipe σ vs) H' fun σ2 H2 => L2.wipe σ2 vs = L2.wipe σ vs ∧ spT L.Γ (fun _ _ _ _ => False) mc.t σ2 H2 fun b H3 =>
        if b = true then spB L.Γ (fun _ _ _ _ => False) me.b σ2 H3 fun y H4 => ∃ acc, H4 D = some (.lst acc) ∧ acc.length < sizeLine ∧ Nx (L2.upd H4 D (.lst (acc ++ [y]))) else Nx H3) := by
  -- what holds at turn i
  let Pv : Nat → Hp → Prop := fun i H' => ∃ si gi ai vi, gi.H = H' ∧ Rel L.Γ κ H0 (L2.wipe σ vs) si gi ∧ StepE κ gB gi ∧ Sub gJ.F gi.F ∧ gi.H D = some (.lst vi) ∧ Loose κ gi D ∧ AccOk L.Γ κ Hb gi vi ai ∧
    (∀ v ∈ vs, getS si v = none) ∧ turns vs mg.g mc.t me.b (ds.drop i) ai si = .ok acc s2
  refine ⟨fun i m H => m = ds.length - i ∧ i ≤ ds.length ∧ Pv i H, ⟨ds.length, by simp, Nat.zero_le _, s1, gs, a0, v0, rfl, r0, stB, hJ, hD0, li0, ac0, em, by rw [List.drop_zero]; exact ht⟩, ?_⟩
  rintro i m H ⟨rfl, hle, si, gi, ai, vi, rfl, ri, sti, hJi, hDi, li, ac, hem, hti⟩
  have lat : Later κ true gJ gi := ⟨hJi, ri.sub, fun z => nomatch z⟩
  have hG := stay gi lat
  by_cases hi : i < ds.length
  · refine .inr ⟨w.goes i _ hi hG, Pv (i + 1), fun H' p' => ⟨ds.length - (i + 1), by omega, rfl, hi, p'⟩, fun x H' hy => ?_⟩
    have hY := w.yields i _ x H' hi hG hy
    have hd : ds[i]? = some ds[i] := by simp [hi]
    obtain ⟨g2, e2, r2, st2, p2⟩ := yld i ds[i] gi.H x H' hd hY κ H0 _ si gi rfl .rfl' ri lat
    rw [List.drop_eq_getElem_cons hi] at hti
    simp only [turns] at hti
    obtain ⟨_, sa, hga, hti⟩ := R.bind_ok hti
    obtain ⟨k, sb, hcb, hti⟩ := R.bind_ok hti
    refine ⟨κ, H0, si, g2, ds[i], sa, e2, r2, p2, hga, fun σ' g' r' st' eH k' l' => ?_⟩
    have hw : L2.wipe σ' vs = L2.wipe σ vs := by
      apply List.ext_getElem?
      intro j
      by_cases hj : j ∈ vs
      · by_cases hjl : j < σ.length
        · rw [wipe_in hj hjl, wipe_in hj (by rw [l', wipe_length]; exact hjl)]
        · rw [List.getElem?_eq_none (by rw [wipe_length, l', wipe_length]; omega), List.getElem?_eq_none (by rw [wipe_length]; omega)]
      · rw [L2.wipe_out hj, k' j fun z => hj (hv j z)]
    have st12 : StepE κ gi g' := st2.trans st'
    refine ⟨hw, κ, H0, sa, g', rfl, r', ?_⟩
    rw [hcb]
    intro g3 r4 st4
    have keepD : ∀ {gg : Gh}, StepE κ gi gg → gg.H D = some (.lst vi) := fun {gg} z => z.keep D _ hDi li.2.2
    cases k with
    | true =>
      simp only at hti
      obtain ⟨v, sc, hev, hti⟩ := R.bind_ok hti
      refine iteT ⟨κ, H0, sb, g3, rfl, r4, ?_⟩
      rw [hev]
      intro g4 r5 st5 y hy
      have st14 : StepE κ gi g4 := (st12.trans st4).trans st5
      have l4 : Loose κ g4 D := li.step st14 (by rw [hDi]; exact .l)
      have hlen : vi.length < sizeLine := by
        have := turns_ge _ _ _ _ _ hti
        rw [List.length_append] at this
        rw [ac.len, ← big_eq]
        simp only [List.length_singleton] at this
        omega
      refine ⟨vi, keepD st14, hlen, ?_⟩
      have r6 := r5.updLoose l4 (.lst (vi ++ [y]))
      have l6 : Loose κ (⟨g4.F, L2.upd g4.H D (.lst (vi ++ [y])), g4.ow⟩ : Gh) D := ⟨l4.1, l4.2.1, l4.2.2⟩
      have st6 : StepE κ gB ⟨g4.F, L2.upd g4.H D (.lst (vi ++ [y])), g4.ow⟩ := by
        have z := sti.trans st14
        refine ⟨fun a o h n => ?_, z.sub, z.new, z.ow, fun a h => ?_⟩
        · show L2.upd g4.H D _ a = some o
          rw [upd_ne fun q => by rw [q, hDB] at h; cases h]
          exact z.keep a o h n
        · show L2.upd g4.H D _ a ≠ none
          by_cases q : a = D
          · rw [q, upd_same]; exact fun z => nomatch z
          · rw [upd_ne q]; exact z.there a h
      obtain ⟨g7, e7, f7, r7, st7⟩ := Rel.wipe r6 vs
      rw [hw] at r7
      have ac1 : AccOk L.Γ κ Hb g4 (vi ++ [y]) (ai ++ [v]) := ac.snoc (H1 := g3.H) st14 ri (fun a h => ?_) (fun a h => (st12.trans st4).there a h) hy
      · have ac2 := ac1.upd (p := D) (o := .lst (vi ++ [y])) hbD
        have ac3 : AccOk L.Γ κ Hb g7 (vi ++ [y]) (ai ++ [v]) := ⟨ac2.len, fun i v b h1 h2 => (ac2.at_ i v b h1 h2).step st7 r6 fun a l hn => l.step st7 hn, ac2.ne⟩
        exact ⟨{ sc with env := Ev.wipe sc.env vs }, g7, ai ++ [v], vi ++ [y], e7, r7, st6.trans st7, (hJi.trans st14.sub).trans st7.sub, by rw [e7]; exact upd_same, l6.step st7 (by show NT (L2.upd g4.H D _ D); rw [upd_same]; exact .l), ac3, fun v hv => wipe_at hv, hti⟩
      · rcases hHb a h with q | q
        · rw [q]; rw [keepD (st12.trans st4)]; exact fun z => nomatch z
        · exact (st12.trans st4).there a (sti.there a q)
    | false =>
      simp only at hti
      refine iteF ?_
      have st13 : StepE κ gi g3 := st12.trans st4
      obtain ⟨g7, e7, f7, r7, st7⟩ := Rel.wipe r4 vs
      rw [hw] at r7
      have ac3 : AccOk L.Γ κ Hb g7 vi ai := ⟨ac.len, fun i v b h1 h2 => (ac.at_ i v b h1 h2).step (st13.trans st7) ri fun a l hn => l.step (st13.trans st7) hn, ac.ne⟩
      exact ⟨{ sb with env := Ev.wipe sb.env vs }, g7, ai, vi, e7, r7, sti.trans (st13.trans st7), hJi.trans (st13.trans st7).sub, keepD (st13.trans st7), li.step (st13.trans st7) (by rw [hDi]; exact .l), ac3, fun v hv => wipe_at hv, hti⟩
  · have e : i = ds.length := by omega
    subst e
    rw [List.drop_eq_nil_of_le (Nat.le_refl _)] at hti
    cases hti
    exact .inl ⟨w.stops _ hG, done gi vi ri sti hDi li ac hem⟩
theorem wipe_wipe {σ : L2.St} {vs vs1 : List Nat} (h : ∀ v ∈ vs1, v ∈ vs) : L2.wipe (L2.wipe σ vs1) vs = L2.wipe σ vs := by
  apply List.ext_getElem?
  intro j
  by_cases hj : j ∈ vs
  · by_cases hjl : j < σ.length
    · rw [wipe_in hj hjl, wipe_in hj (by rw [wipe_length]; exact hjl)]
    · rw [List.getElem?_eq_none (by rw [wipe_length, wipe_length]; omega), List.getElem?_eq_none (by rw [wipe_length]; omega)]
  · rw [L2.wipe_out hj, L2.wipe_out hj, L2.wipe_out fun z => hj (h j z)]
theorem comp2_imp {W : WX} {vs vs1 tv tv1 : List Nat} {mg mi mc mg1 mi1 mc1 me : Sm} (hv : ∀ v ∈ tv, v ∈ vs) (hv1 : ∀ v ∈ tv1, v ∈ vs1)
    : ∀ σ H Q, spB L.Γ W (sComp2 vs vs1 mg mi mc mg1 mi1 mc1 me).b σ H Q → tLc2 (spI L.Γ W false mi.i) (spG L.Γ mg.g tv) (spT L.Γ (fun _ _ _ _ => False) mc.t) (spI L.Γ (fun _ _ _ _ => False) true mi1.i) (spG L.Γ mg1.g tv1) (spT L.Γ (fun _ _ _ _ => False) mc1.t) (spB L.Γ (fun _ _ _ _ => False) me.b) vs vs1 σ H Q := by
  intro σ H Q ⟨κ, H0, s, g, e, r, q⟩
  subst e
  refine ⟨κ, H0, s, g, rfl, r, q.bind fun ds s1 g1 r1 st1 q1 J hJ D hD => ?_⟩
  obtain ⟨G, Y, w, stay, yld⟩ := hJ
  by_cases hlf : (leafs s1 vs && vs1.all (vs.contains ·)) = true
  · have hl := (Bool.and_eq_true _ _ ▸ hlf).1
    have hv2 : ∀ v ∈ vs1, v ∈ vs := fun v hm => by
      have := List.all_eq_true.mp (Bool.and_eq_true _ _ ▸ hlf).2 v hm
      simpa using this
    simp only [hlf, if_true] at q1
    cases hc : Ev.calm (turns2 vs vs1 mg.g mc.t (mi1.i true) mg1.g mc1.t me.b ds [] { s1 with env := Ev.wipe s1.env vs }) with
    | exc c s' => exact absurd hc calm_no
    | bad => rw [hc] at q1; exact q1.elim
    | ok acc s2 =>
      rw [hc] at q1
      have ht := calm_ok hc
      by_cases hz : acc.length ≤ big
      · have q2 : Fin L.Γ κ H0 σ W (lift (gather acc) { s2 with env := back s1.env s2.env vs }) g fun b _ g' => ∀ v, RB L.Γ κ g.H g' v b → Q v g'.H := by
          have q1 : Fin L.Γ κ H0 σ W (if acc.length ≤ big then lift (gather acc) { s2 with env := back s1.env s2.env vs } else .bad) g fun b _ g' => ∀ v, RB L.Γ κ g.H g' v b → Q v g'.H := q1
          rwa [if_pos hz] at q1
        obtain ⟨bb, eb, q3⟩ := q2.lift
        obtain ⟨gw, ew, fw, rw', stw⟩ := Rel.wipe r1 vs
        have hDw : gw.H D = none := by rw [ew]; exact hD
        obtain ⟨r3, st3, l3⟩ := rw'.laid hDw (.lst [])
        let Hb : Hp := L2.upd g1.H D (.lst [])
        have hHb : ∀ a, Hb a ≠ none → a = D ∨ g1.H a ≠ none := fun a h => by
          by_cases q : a = D
          · exact .inl q
          · exact .inr (by rw [show Hb a = g1.H a from upd_ne q] at h; exact h)
        have hbD : Hb D ≠ none := by rw [show Hb D = _ from upd_same]; exact fun z => nomatch z
        let Pv : Nat → Hp → Prop := fun i H' => ∃ si gi ai vi, gi.H = H' ∧ Rel L.Γ κ H0 (L2.wipe σ vs) si gi ∧ StepE κ g1 gi ∧ gi.H D = some (.lst vi) ∧ Loose κ gi D ∧ AccOk L.Γ κ Hb gi vi ai ∧
          (∀ v ∈ vs, getS si v = none) ∧ turns2 vs vs1 mg.g mc.t (mi1.i true) mg1.g mc1.t me.b (ds.drop i) ai si = .ok acc s2
        refine ⟨fun i m H => m = ds.length - i ∧ i ≤ ds.length ∧ Pv i H, ⟨ds.length, by simp, Nat.zero_le _, _, _, [], [], ?_, r3, stw.trans st3, upd_same, l3, AccOk.nil, fun v hv => wipe_at hv, by rw [List.drop_zero]; exact ht⟩, ?_⟩
        · show L2.upd gw.H D (.lst []) = L2.upd g1.H D (.lst [])
          rw [ew]
        rintro i m H ⟨rfl, hle, si, gi, ai, vi, rfl, ri, sti, hDi, li, ac, hem, hti⟩
        have hG := stay gi ⟨sti.sub, ri.sub, fun _ => sti⟩
        by_cases hi : i < ds.length
        · refine .inr ⟨w.goes i _ hi hG, Pv (i + 1), fun H' p' => ⟨ds.length - (i + 1), by omega, rfl, hi, p'⟩, fun x H' hy => ?_⟩
          have hY := w.yields i _ x H' hi hG hy
          have hd : ds[i]? = some ds[i] := by simp [hi]
          obtain ⟨g2, e2, r2, st2, p2⟩ := yld i ds[i] gi.H x H' hd hY κ H0 _ si gi rfl .rfl' ri ⟨sti.sub, ri.sub, fun _ => sti⟩
          rw [List.drop_eq_getElem_cons hi] at hti
          simp only [turns2] at hti
          obtain ⟨_, sa, hga, hti⟩ := R.bind_ok hti
          obtain ⟨k, sb, hcb, hti⟩ := R.bind_ok hti
          refine ⟨κ, H0, si, g2, ds[i], sa, e2, r2, p2, hga, fun σ' g' r' st' eH k' l' => ?_⟩
          have hw : L2.wipe σ' vs = L2.wipe σ vs := by
            apply List.ext_getElem?
            intro j
            by_cases hj : j ∈ vs
            · by_cases hjl : j < σ.length
              · rw [wipe_in hj hjl, wipe_in hj (by rw [l', wipe_length]; exact hjl)]
              · rw [List.getElem?_eq_none (by rw [wipe_length, l', wipe_length]; omega), List.getElem?_eq_none (by rw [wipe_length]; omega)]
            · rw [L2.wipe_out hj, k' j fun z => hj (hv j z)]
          have st12 : StepE κ gi g' := st2.trans st'
          refine ⟨hw, κ, H0, sa, g', rfl, r', ?_⟩
          rw [hcb]
          intro g3 r4 st4
          have keepD : ∀ {gg : Gh}, StepE κ gi gg → gg.H D = some (.lst vi) := fun {gg} z => z.keep D _ hDi li.2.2
          have looseD : ∀ {gg : Gh}, StepE κ gi gg → Loose κ gg D := fun {gg} z => li.step z (by rw [hDi]; exact .l)
          have accOk : ∀ {gg : Gh}, StepE κ gi gg → AccOk L.Γ κ Hb gg vi ai := fun {gg} z => ⟨ac.len, fun i v b h1 h2 => (ac.at_ i v b h1 h2).step z ri fun a l hn => l.step z hn, ac.ne⟩
          cases k with
          | true =>
            simp only at hti
            obtain ⟨ys, sc, hys, hti⟩ := R.bind_ok hti
            obtain ⟨a1, sd, ht1, hti⟩ := R.bind_ok hti
            have ha1 : a1.length ≤ big := Nat.le_trans (turns2_ge _ _ _ _ _ hti) hz
            refine iteT ⟨κ, H0, sb, g3, rfl, r4, ?_⟩
            rw [hys]
            intro g4 r5 st5 J1 hJ1
            obtain ⟨G1, Y1, w1, stay1, yld1⟩ := hJ1
            obtain ⟨gs, es, fs, rs, sts⟩ := Rel.wipe r5 vs1
            have st14 : StepE κ gi gs := ((st12.trans st4).trans st5).trans sts
            have := turn_loop (Hb := Hb) hv1 w1 stay1 yld1 sts.sub rs (sti.trans st14) hD (keepD st14) (looseD st14) (accOk st14) hHb hbD ha1 (fun v hv => wipe_at hv) ht1 (Qd := Pv (i + 1)) (fun gq vq rq stq hDq lq aq emq => by
              obtain ⟨g7, e7, f7, r7, st7⟩ := Rel.wipe rq vs
              rw [wipe_wipe hv2, hw] at r7
              exact ⟨{ sd with env := Ev.wipe sd.env vs }, g7, a1, vq, e7, r7, stq.trans st7, by rw [e7]; exact hDq, lq.step st7 (by rw [hDq]; exact .l),
                ⟨aq.len, fun i v b h1 h2 => (aq.at_ i v b h1 h2).step st7 rq fun a l hn => l.step st7 hn, aq.ne⟩, fun v hv => wipe_at hv, hti⟩)
            rw [es] at this
            exact this
          | false =>
            simp only at hti
            refine iteF ?_
            have st13 : StepE κ gi g3 := st12.trans st4
            obtain ⟨g7, e7, f7, r7, st7⟩ := Rel.wipe r4 vs
            rw [hw] at r7
            exact ⟨{ sb with env := Ev.wipe sb.env vs }, g7, ai, vi, e7, r7, sti.trans (st13.trans st7), keepD (st13.trans st7), looseD (st13.trans st7), accOk (st13.trans st7), fun v hv => wipe_at hv, hti⟩
        · have e : i = ds.length := by omega
          subst e
          rw [List.drop_eq_nil_of_le (Nat.le_refl _)] at hti
          cases hti
          refine .inl ⟨w.stops _ hG, ?_⟩
          have rb := r1.unwipe hl sti ri hem
          refine q3 gi rb (st1.trans sti) (.ref D) ?_
          have old : ∀ {a}, g1.H a = none → g.H a = none := fun {a} h => Classical.byContradiction fun z => st1.there a z h
          have hDg : g.H D = none := old hD
          unfold gather at eb
          cases qv : vals? acc with
          | some es =>
            rw [qv] at eb
            cases eb
            exact ⟨D, vi, rfl, hDi, AccOk.vals ac.at_ ac.len qv, hDg, li⟩
          | none =>
            rw [qv] at eb
            cases qn : news? acc with
            | none => rw [qn] at eb; cases eb
            | some dss =>
              rw [qn] at eb
              cases eb
              obtain ⟨as, ea, rws, la, nda⟩ := ac.news qn
              have hne : ∀ b ∈ as, b ≠ D ∧ g1.H b = none := fun b hb => by
                have := (la b hb).1
                by_cases q : b = D
                · rw [q] at this; exact absurd this hbD
                · rw [show Hb b = g1.H b from upd_ne q] at this; exact ⟨q, this⟩
              refine ⟨D, as, rfl, by rw [hDi, ea], rws, fun b hb => ?_, List.nodup_cons.mpr ⟨fun h => (hne D h).1 rfl, nda⟩⟩
              rcases List.mem_cons.mp hb with z | z
              · rw [z]; exact ⟨hDg, li⟩
              · exact ⟨old (hne b z).2, (la b z).2⟩
      · have q1 : Fin L.Γ κ H0 σ W (if acc.length ≤ big then lift (gather acc) { s2 with env := back s1.env s2.env vs } else .bad) g fun b _ g' => ∀ v, RB L.Γ κ g.H g' v b → Q v g'.H := q1
        rw [if_neg hz] at q1
        exact q1.elim
  · simp only [hlf, if_false] at q1
    exact q1.elim
/-- what a comprehension's parts must be -/
structure OkComp2 (L : Law) (f : Frm) (elt tg iter tg1 iter1 : Expr) (ifs ifs1 : List Expr) (scope : Scope) (vs vs1 : List Nat) (mg mi mc mg1 mi1 mc1 me : Sm) : Prop where
  own : ∃ own : List (Str × Nat), own.map (·.2) = vs ∧ blkC f.N f.sc scope own = true
  sub : ∀ v ∈ vs1, v ∈ vs
  it : OkI L f tg iter mi
  g : ∃ tv, (∀ v ∈ tv, v ∈ vs) ∧ OkG L (f.blk scope) tg mg tv
  c : OkC L (f.blk scope) ifs mc
  it1 : OkI L (f.blk scope) tg1 iter1 mi1
  g1 : ∃ tv, (∀ v ∈ tv, v ∈ vs1) ∧ OkG L (f.blk scope) tg1 mg1 tv
  c1 : OkC L (f.blk scope) ifs1 mc1
  e : OkE L (f.blk scope) elt me
theorem OkComp2.pe {elt tg iter tg1 iter1 : Expr} {ifs ifs1 : List Expr} {scope : Scope} {vs vs1 : List Nat} {mg mi mc mg1 mi1 mc1 me : Sm} {pos : Pos} (h : OkComp2 L f elt tg iter tg1 iter1 ifs ifs1 scope vs vs1 mg mi mc mg1 mi1 mc1 me) (W : WX) (X : Cx) (c : CxG L f W X) : PE X (.ListComp elt [⟨tg, iter, ifs, 0⟩, ⟨tg1, iter1, ifs1, 0⟩] scope pos) (spB L.Γ W (sComp2 vs vs1 mg mi mc mg1 mi1 mc1 me).b) := by
  obtain ⟨⟨own, rfl, hb⟩, hsub, hi, ⟨tv, htv, hg⟩, hc, hi1, ⟨tv1, htv1, hg1⟩, hc1, he⟩ := h
  refine PE.imp (pe_lc2 c.calm (by rw [c.N]; exact c.nd) (hi.i false W X c) (blkOk_by (own := own) (by rw [c.N, c.sc]; exact hb)) hsub (fun s H C cl fp => hg.g _ _ (c.blk scope s H C cl fp)) (fun s H C cl fp => hc.pts _ _ (c.blk scope s H C cl fp)) (fun s H C cl fp => hi1.i true _ _ (c.blk scope s H C cl fp)) (fun s H C cl fp => hg1.g _ _ (c.blk scope s H C cl fp)) (fun s H C cl fp => hc1.pts _ _ (c.blk scope s H C cl fp)) (fun s H C cl fp => he.b _ _ (c.blk scope s H C cl fp)) (hi.fs _) (fun env x => hi1.fs env x)) ?_
  exact comp2_imp htv htv1
theorem ok_comp2 {elt tg iter tg1 iter1 : Expr} {ifs ifs1 : List Expr} {scope : Scope} {vs vs1 : List Nat} {mg mi mc mg1 mi1 mc1 me : Sm} {pos : Pos} (h : OkComp2 L f elt tg iter tg1 iter1 ifs ifs1 scope vs vs1 mg mi mc mg1 mi1 mc1 me) : OkE L f (.ListComp elt [⟨tg, iter, ifs, 0⟩, ⟨tg1, iter1, ifs1, 0⟩] scope pos) (sComp2 vs vs1 mg mi mc mg1 mi1 mc1 me) :=
  OkE.of ⟨fun _ _ => rfl, fun _ _ => rfl, fun _ => rfl, fun _ _ => rfl, fun _ _ _ _ h => nomatch h⟩ (fun W X c => h.pe W X c) fun _ _ => rfl
end
end Ev

/-! statements -/
namespace Ev
open PySem PySem.Spec PyProof.Rows L2
/-- since the entry: F0, H0 what was frozen, what there was; κ0 the cup -/
structure Base (κ0 : Option Addr) (F0 H0 : Hp) (κ : Option Addr) (g : Gh) : Prop where
  kle : KLe κ0 κ
  kf : ∀ a, κ = some a → κ0 = some a ∨ H0 a = none
  sub : Sub F0 g.F
  keep : ∀ a o, H0 a = some o → κ0 ≠ some a → g.H a = some o
  new : ∀ a, g.F a ≠ none → F0 a ≠ none ∨ H0 a = none ∨ κ0 ≠ some a ∧ ∃ xs, H0 a = some (.tup xs)
section
variable {Γ : Gam} {κ κ0 : Option Addr} {F0 H0 : Hp} {σ : L2.St} {s : St} {g g' : Gh} {W : WX}
theorem Base.kne (b : Base κ0 F0 H0 κ g) {a : Addr} (h : H0 a ≠ none) (n : κ0 ≠ some a) : κ ≠ some a := fun e => by
  rcases b.kf a e with z | z
  · exact n z
  · exact h z
theorem Base.step (b : Base κ0 F0 H0 κ g) (r : Rel Γ κ H0 σ s g) (st : StepE κ g g') : Base κ0 F0 H0 κ g' where
  kle := b.kle
  kf := b.kf
  sub := b.sub.trans st.sub
  keep := fun a o h n => st.keep a o (b.keep a o h n) (b.kne (by rw [h]; exact fun z => nomatch z) n)
  new := fun a h => by
    rcases st.new a h with z | ⟨i, z⟩ | z | ⟨hk, xs, z⟩
    · exact b.new a z
    · exact .inr (.inl (r.old i a z))
    · exact .inr (.inl (Classical.byContradiction fun q => r.grow a q z))
    · cases q : H0 a with
      | none => exact .inr (.inl rfl)
      | some o =>
        have n : κ0 ≠ some a := fun e => hk (b.kle a e)
        rw [b.keep a o q n] at z
        exact .inr (.inr ⟨n, xs, z⟩)
/-- on from a later entry into a part -/
theorem Base.trans {κ1 : Option Addr} {F1 : Hp} {g1 : Gh} (b : Base κ0 F0 H0 κ1 g1) (e : g1.F = F1) (b2 : Base κ1 F1 H0 κ g) : Base κ0 F0 H0 κ g where
  kle := fun a h => b2.kle a (b.kle a h)
  kf := fun a h => by
    rcases b2.kf a h with z | z
    · exact b.kf a z
    · exact .inr z
  sub := by subst e; exact b.sub.trans b2.sub
  keep := fun a o h n => b2.keep a o h (b.kne (by rw [h]; exact fun z => nomatch z) n)
  new := fun a h => by
    subst e
    rcases b2.new a h with z | z | ⟨n, z⟩
    · exact b.new a z
    · exact .inr (.inl z)
    · exact .inr (.inr ⟨fun e => n (b.kle a e), z⟩)
/-- a part's entry -/
theorem Base.part (b : Base κ0 F0 H0 κ g) : Base κ g.F H0 κ g where
  kle := .rfl'
  kf := fun a h => .inl h
  sub := Sub.refl _
  keep := fun a o h n => b.keep a o h fun z => n (b.kle a z)
  new := fun a h => .inl h
/-- a statement's end -/
def FinO (Γ : Gam) (κ0 : Option Addr) (F0 H0 : Hp) (W : WX) (o : Out) (D : Ends) : Prop := match o with
  | .nx s => ∀ κ σ g, Rel Γ κ H0 σ s g → Base κ0 F0 H0 κ g → D.nx σ g.H
  | .bk s => ∀ κ σ g, Rel Γ κ H0 σ s g → Base κ0 F0 H0 κ g → D.bk σ g.H
  | .ct s => ∀ κ σ g, Rel Γ κ H0 σ s g → Base κ0 F0 H0 κ g → D.ct σ g.H
  | .rt b s => ∀ κ σ s' g v, s'.cup = s.cup → Rel Γ κ H0 σ s' g → Base κ0 F0 H0 κ g → RB Γ κ H0 g v b → D.rt v g.H
  | .xc c s => ∀ κ σ g, Rel Γ κ H0 σ s g → Base κ0 F0 H0 κ g → W (.ref (Γ.ca c)) none σ g.H
  | .bad => False
def spS (Γ : Gam) (W : WX) (m : St → Out) : TS := fun D σ H => ∃ κ0 F0 H0 κ s g, g.H = H ∧ Rel Γ κ H0 σ s g ∧ Base κ0 F0 H0 κ g ∧ FinO Γ κ0 F0 H0 W (m s) D
theorem FinO.out {α : Type} {r : R α} {f : α → St → Out} {D : Ends} (h : FinO Γ κ0 F0 H0 W (r.out f) D) (rr : Rel Γ κ H0 σ s g) (b : Base κ0 F0 H0 κ g) : Fin Γ κ H0 σ W r g (fun a s _ => FinO Γ κ0 F0 H0 W (f a s) D) := by
  cases r with
  | ok a s1 => exact fun _ _ _ => h
  | exc c s1 => exact fun g' r' st => h κ σ g' r' (b.step rr st)
  | bad => exact h.elim
theorem FinO.to {o : Out} {D D' : Ends} (h : FinO Γ κ0 F0 H0 W o D) (h1 : ∀ κ σ s g, Rel Γ κ H0 σ s g → Base κ0 F0 H0 κ g → o = .nx s → D.nx σ g.H → D'.nx σ g.H) (h2 : ∀ κ σ s g, Rel Γ κ H0 σ s g → Base κ0 F0 H0 κ g → o = .bk s → D.bk σ g.H → D'.bk σ g.H)
    (h3 : ∀ κ σ s g, Rel Γ κ H0 σ s g → Base κ0 F0 H0 κ g → o = .ct s → D.ct σ g.H → D'.ct σ g.H) (h4 : ∀ v H, D.rt v H → D'.rt v H) : FinO Γ κ0 F0 H0 W o D' := by
  cases o with
  | nx s => exact fun κ σ g r b => h1 κ σ s g r b rfl (h κ σ g r b)
  | bk s => exact fun κ σ g r b => h2 κ σ s g r b rfl (h κ σ g r b)
  | ct s => exact fun κ σ g r b => h3 κ σ s g r b rfl (h κ σ g r b)
  | rt b s => exact fun κ σ s' g v e r bb q => h4 v g.H (h κ σ s' g v e r bb q)
  | xc c s => exact h
  | bad => exact h
end

/-- a statement and its meaning -/
def OkS (L : Law) (f : Frm) (x : Stmt) (m : St → Out) : Prop := ∀ W X, CxG L f W X → PS X x (spS L.Γ W m)
def OkSs (L : Law) (f : Frm) (xs : List Stmt) (m : St → Out) : Prop := ∀ W X, CxG L f W X → PSs X xs (spS L.Γ W m)
/-- a target of an assignment -/
def spGB (Γ : Gam) (W : WX) (m : B → St → R Unit) : TG := fun v σ H Q => ∃ κ0 F0 H0 κ s g b, g.H = H ∧ Rel Γ κ H0 σ s g ∧ Base κ0 F0 H0 κ g ∧ RB Γ κ H0 g v b ∧ (match m b s with
  | .ok _ s' => ∀ κ' σ' g', Rel Γ κ' H0 σ' s' g' → Base κ0 F0 H0 κ' g' → Q σ' g'.H
  | .exc c s' => ∀ κ' σ' g', Rel Γ κ' H0 σ' s' g' → Base κ0 F0 H0 κ' g' → W (.ref (Γ.ca c)) none σ' g'.H
  | .bad => False)
structure OkA (L : Law) (f : Frm) (x : Expr) (m : Sm) : Prop where
  as : ∀ es env, assignEach (x :: es) env = (false, assign x env) :: assignEach es env
  g : ∀ W X, CxG L f W X → PG X x (spGB L.Γ W m.g)
section
variable {L : Law} {f : Frm} {x : Expr} {m : Sm} {pos : Pos}
/-- a value fresh since g is fresh since the entry -/
theorem RB.sinceH0 {Γ : Gam} {κ : Option Addr} {H0 : Hp} {σ : L2.St} {s : St} {g g' : Gh} {v : V} {b : B} (r : Rel Γ κ H0 σ s g) (h : RB Γ κ g.H g' v b) : RB Γ κ H0 g' v b := h.old r.grow
theorem a_var {i : Nat} {x : Str} (hN : f.N[i]? = some x) (hx : Loc f.sc x) (hf : f.cf x = true ∨ f.sc.names.lookup x = some .local) : OkA L f (.Name x pos) (sVar i) := by
  refine ⟨fun _ _ => rfl, fun W X c => PG.imp (pg_name (i := i) (by rw [c.N]; exact c.nd) (by rw [c.N]; exact hN) (by rw [c.sc]; exact hx) (by rw [c.fn, c.sc]; exact hf)) fun v σ H Q h => ?_⟩
  obtain ⟨κ0, F0, H0, κ, s, g, b, e, r, bs, p, k⟩ := h
  subst e
  simp only [sVar] at k
  by_cases hi : i < s.env.length
  · rw [if_pos hi] at k
    have k : ∀ κ' σ' g', Rel L.Γ κ' H0 σ' (setS s i b.t) g' → Base κ0 F0 H0 κ' g' → Q σ' g'.H := k
    have fin : ∀ {as : List Addr}, Rel L.Γ κ H0 (σ.set i (some v)) (setS s i b.t) ⟨g.F, g.H, fun j => if j = i then as else g.ow j⟩ → Q (σ.set i (some v)) g.H := fun {as} r' =>
      k κ _ ⟨g.F, g.H, fun j => if j = i then as else g.ow j⟩ r' ⟨bs.kle, bs.kf, bs.sub, bs.keep, bs.new⟩
    cases b with
    | val d => exact fin (r.setT hi (t := .leaf d) (as := []) ⟨p, rfl⟩ .nil fun a ha => by cases ha)
    | new ds =>
      obtain ⟨a, vs, ea, qa, ta, n, l⟩ := p
      refine fin (r.setT hi (t := .own ds) (as := [a]) ⟨a, vs, ea, rfl, qa, ta⟩ (by simp) fun b hb => ?_)
      rw [List.mem_singleton.mp hb]
      exact ⟨l.1, fun j _ => l.2.1 j, l.2.2, n⟩
    | new2 dss =>
      obtain ⟨a, as, ea, qa, ta, l, nd⟩ := p
      refine fin (r.setT hi (t := .own2 dss) (as := a :: as) ⟨a, as, ea, rfl, qa, ta⟩ nd fun b hb => ?_)
      exact ⟨(l b hb).2.1, fun j _ => (l b hb).2.2.1 j, (l b hb).2.2.2, (l b hb).1⟩
    | newd ks ds =>
      obtain ⟨a, ws, ea, qa, ek, ta, n, l⟩ := p
      refine fin (r.setT hi (t := .dct ks ds) (as := [a]) ⟨a, ws, ea, rfl, qa, ek, ta⟩ (by simp) fun b hb => ?_)
      rw [List.mem_singleton.mp hb]
      exact ⟨l.1, fun j _ => l.2.1 j, l.2.2, n⟩
  · rw [if_neg hi] at k; exact k.elim
/-- any target of names, a value that is handed on -/
theorem a_of {tv : List Nat} (h : OkG L f x m tv) (hm : ∀ v s, m.g v s = m.g (.val v.d) s) : OkA L f x m := by
  refine ⟨h.as, fun W X c => PG.imp (h.g W X c) fun v σ H Q hh => ?_⟩
  obtain ⟨κ0, F0, H0, κ, s, g, b, e, r, bs, p, k⟩ := hh
  subst e
  -- frozen
  have hp : ∃ g1, g1.H = g.H ∧ Rel L.Γ κ H0 σ s g1 ∧ Base κ0 F0 H0 κ g1 ∧ Rp L.Γ κ g1.F v b.d := by
    have nb : ∀ {F' : Hp}, Sub g.F F' → (∀ a, F' a ≠ none → g.F a ≠ none ∨ H0 a = none) → Base κ0 F0 H0 κ ⟨F', g.H, g.ow⟩ := fun {F'} sb hn => ⟨bs.kle, bs.kf, bs.sub.trans sb, bs.keep, fun a ha => (hn a ha).elim (bs.new a) fun z => .inr (.inl z)⟩
    cases b with
    | val d => exact ⟨g, rfl, r, bs, p⟩
    | new ds =>
      obtain ⟨a, vs, ea, qa, ta, n, l⟩ := p
      obtain ⟨r1, st1, sb⟩ := r.frz qa l
      refine ⟨⟨L2.upd g.F a (.lst vs), g.H, g.ow⟩, rfl, r1, nb sb fun y hy => ?_, ?_⟩
      · by_cases q : y = a
        · rw [q]; exact .inr n
        · rw [upd_ne q] at hy; exact .inl hy
      · show Rp L.Γ κ _ v (.lst ds)
        unfold Rp
        exact ⟨a, vs, ea, upd_same, RpL.mono .rfl' sb ds vs ta⟩
    | new2 dss =>
      obtain ⟨a, as, ea, qa, ta, hl, nd⟩ := p
      have nd' := List.nodup_cons.mp nd
      obtain ⟨F1, r1, sb1, rp, nw⟩ := r.frzRows ta (fun b hb => (hl b (List.mem_cons_of_mem _ hb)).2) nd'.2
      obtain ⟨h0, l1, l2, l3⟩ := hl a List.mem_cons_self
      have l' : Loose κ (⟨F1, g.H, g.ow⟩ : Gh) a := ⟨by
        cases z : F1 a with
        | none => exact z
        | some u =>
          rcases nw a (by rw [z]; exact fun y => nomatch y) with y | y
          · exact absurd l1 y
          · exact absurd y nd'.1, l2, l3⟩
      obtain ⟨r2, st2, sb2⟩ := r1.frz (p := a) qa l'
      refine ⟨⟨L2.upd F1 a (.lst (as.map V.ref)), g.H, g.ow⟩, rfl, r2, nb (sb1.trans sb2) fun y hy => ?_, ?_⟩
      · by_cases q : y = a
        · rw [q]; exact .inr h0
        · rw [upd_ne q] at hy
          rcases nw y hy with z | z
          · exact .inl z
          · exact .inr (hl y (List.mem_cons_of_mem _ z)).1
      · show Rp L.Γ κ _ v (.lst (dss.map .lst))
        unfold Rp
        exact ⟨a, as.map V.ref, ea, upd_same, RpL.mono .rfl' sb2 _ _ rp⟩
    | newd ks ds =>
      obtain ⟨a, ws, ea, qa, ek, ta, n, l⟩ := p
      obtain ⟨r1, st1, sb⟩ := r.frz qa l
      refine ⟨⟨L2.upd g.F a (.dT ws), g.H, g.ow⟩, rfl, r1, nb sb fun y hy => ?_, ?_⟩
      · by_cases q : y = a
        · rw [q]; exact .inr n
        · rw [upd_ne q] at hy; exact .inl hy
      · show Rp L.Γ κ _ v (.dct false ks ds)
        unfold Rp
        exact ⟨a, ws, ea, .inl upd_same, ek, RpL.mono .rfl' sb ds _ ta⟩
  obtain ⟨g1, e1, r1, b1, p1⟩ := hp
  rw [hm] at k
  cases q : m.g (.val b.d) s with
  | ok u s' =>
    rw [q] at k
    exact ⟨κ, H0, s, g1, b.d, s', e1, r1, p1, q, fun σ' g' r' st eH _ _ => k κ σ' g' r' (b1.step r1 st)⟩
  | exc cc s' => exact absurd q (h.nox _ _ _ _)
  | bad => rw [q] at k; exact k.elim
theorem s_asg {tg e : Expr} {mg me : Sm} (he : OkE L f e me) (hg : OkA L f tg mg) (hs : ∀ env, env.scope = f.sc → swapsWithSole [tg] e pos.line env = pure false) (hw : ∀ env, env.scope = f.sc → swappedStores [tg] e env = pure none) :
    OkS L f (.Assign [tg] e pos) (fun s => (me.b s).out fun v s => (mg.g v s).out fun _ s => .nx s) := fun W X c => by
  refine PS.imp (ps_asg (he.b W X c) (hg.g W X c) (hs _ c.sc) (hw _ c.sc) (by rw [hg.as]; rfl)) fun D σ H ⟨κ0, F0, H0, κ, s, g, e, r, bs, h⟩ => ?_
  subst e
  refine ⟨κ, H0, s, g, rfl, r, (h.out r bs).imp fun v s1 g1 r1 st1 h1 u hu => ?_⟩
  refine ⟨κ0, F0, H0, κ, s1, g1, v, rfl, r1, bs.step r st1, RB.sinceH0 r hu, ?_⟩
  cases q : mg.g v s1 with
  | ok a s2 => rw [q] at h1; exact h1
  | exc cc s2 => rw [q] at h1; exact h1
  | bad => rw [q] at h1; exact h1
theorem s_ex {e : Expr} {me : Sm} (he : OkE L f e me) (hs : ∀ env, swapsWith e none pos.line env = pure false) : OkS L f (.Expr e pos) (fun s => (me.b s).out fun _ s => .nx s) := fun W X c => by
  refine PS.imp (ps_expr (he.b W X c) (hs _)) fun D σ H ⟨κ0, F0, H0, κ, s, g, e, r, bs, h⟩ => ?_
  subst e
  exact ⟨κ, H0, s, g, rfl, r, (h.out r bs).imp fun v s1 g1 r1 st1 h1 u hu => h1 κ σ g1 r1 (bs.step r st1)⟩
theorem s_pass : OkS L f (.Pass pos) .nx := fun W X c => PS.imp ps_pass fun D σ H ⟨κ0, F0, H0, κ, s, g, e, r, bs, h⟩ => by subst e; exact h κ σ g r bs
theorem s_brk : OkS L f (.Break pos) .bk := fun W X c => PS.imp ps_break fun D σ H ⟨κ0, F0, H0, κ, s, g, e, r, bs, h⟩ => by subst e; exact h κ σ g r bs
theorem s_cnt : OkS L f (.Continue pos) .ct := fun W X c => PS.imp ps_continue fun D σ H ⟨κ0, F0, H0, κ, s, g, e, r, bs, h⟩ => by subst e; exact h κ σ g r bs
theorem s_doc {y : Str} {j : Nat} {p2 : Pos} : OkS L f (.Expr (.Constant (.str y) j p2) pos) .nx := fun W X c => PS.imp ps_doc fun D σ H ⟨κ0, F0, H0, κ, s, g, e, r, bs, h⟩ => by subst e; exact h κ σ g r bs
theorem s_if {c : Expr} {mc : Sm} {xs ys : List Stmt} {a b : St → Out} (hc : OkE L f c mc) (ha : OkSs L f xs a) (hb : OkSs L f ys b) : OkS L f (.If c xs ys pos) (fun s => (mc.t s).out fun k s => match k with | true => a s | false => b s) := fun W X cx => by
  refine PS.imp (ps_if (hc.t W X cx) (ha W X cx) (hb W X cx)) fun D σ H ⟨κ0, F0, H0, κ, s, g, e, r, bs, h⟩ => ?_
  subst e
  refine ⟨κ, H0, s, g, rfl, r, (h.out r bs).imp fun k s1 g1 r1 st1 h1 => ?_⟩
  cases k with
  | true => exact iteT ⟨κ0, F0, H0, κ, s1, g1, rfl, r1, bs.step r st1, h1⟩
  | false => exact iteF ⟨κ0, F0, H0, κ, s1, g1, rfl, r1, bs.step r st1, h1⟩
theorem ss_nil : OkSs L f [] .nx := fun W X c => PSs.imp pss_nil fun D σ H ⟨κ0, F0, H0, κ, s, g, e, r, bs, h⟩ => by subst e; exact h κ σ g r bs
theorem ss_cons {x : Stmt} {xs : List Stmt} {a b : St → Out} (hx : OkS L f x a) (hxs : OkSs L f xs b) : OkSs L f (x :: xs) (fun s => (a s).then b) := fun W X c => by
  refine PSs.imp (pss_cons (hx W X c) (hxs W X c)) fun D σ H ⟨κ0, F0, H0, κ, s, g, e, r, bs, h⟩ => ?_
  subst e
  have h : FinO L.Γ κ0 F0 H0 W ((a s).then b) D := h
  refine ⟨κ0, F0, H0, κ, s, g, rfl, r, bs, ?_⟩
  cases q : a s with
  | nx s1 =>
    rw [q] at h
    exact fun κ' σ' g' r' b' => ⟨κ0, F0, H0, κ', s1, g', rfl, r', b', h⟩
  | bk s1 => rw [q] at h; exact h
  | ct s1 => rw [q] at h; exact h
  | rt v s1 => rw [q] at h; exact h
  | xc cc s1 => rw [q] at h; exact h
  | bad => rw [q] at h; exact h
/-- return -/
theorem s_ret {e : Expr} {me : Sm} (he : OkE L f e me) : OkS L f (.Return (some e) pos) (fun s => (me.b s).out fun b s => .rt b s) := fun W X c => by
  refine PS.imp (ps_ret (he.b W X c)) fun D σ H ⟨κ0, F0, H0, κ, s, g, e, r, bs, h⟩ => ?_
  subst e
  exact ⟨κ, H0, s, g, rfl, r, (h.out r bs).imp fun v s1 g1 r1 st1 h1 u hu => h1 κ σ s1 g1 u rfl r1 (bs.step r st1) (RB.sinceH0 r hu)⟩
theorem s_retN : OkS L f (.Return none pos) (fun s => .rt (.val .non) s) := fun W X c => PS.imp ps_retN fun D σ H ⟨κ0, F0, H0, κ, s, g, e, r, bs, h⟩ => by
  subst e
  exact h κ σ s g .non rfl r bs (show Rp L.Γ κ g.F .non .non from rp_non)
theorem s_retV {i : Nat} {x : Str} {p : Pos} (hN : f.N[i]? = some x) (hv : Vis f.sc x) (hd : (x == ("__debug__" : Str)) = false) (hcd : (x == ("__classdict__" : Str)) = false) :
    OkS L f (.Return (some (.Name x p)) pos) (fun s => (match getS s i with
      | some t => R.ok t.b s
      | none => R.bad).out fun b s => .rt b s) := fun W X c => by
  refine PS.imp (ps_ret (pe_var (i := i) (by rw [c.N]; exact hN) (by rw [c.sc]; exact hv) hd hcd)) fun D σ H ⟨κ0, F0, H0, κ, s, g, e, r, bs, h⟩ => ?_
  subst e
  dsimp only at h
  cases hs : getS s i with
  | none => rw [hs] at h; exact h.elim
  | some t =>
    rw [hs] at h
    obtain ⟨v, hv, rt⟩ := r.slot i t hs
    have h : ∀ κ σ s' g v, s'.cup = s.cup → Rel L.Γ κ H0 σ s' g → Base κ0 F0 H0 κ g → RB L.Γ κ H0 g v t.b → D.rt v g.H := h
    refine ⟨v, hv, ?_⟩
    have r1 := r.clear i
    have own : ∀ a ∈ g.ow i, H0 a = none ∧ Loose κ (⟨g.F, g.H, fun j => if j = i then [] else g.ow j⟩ : Gh) a := fun a ha => ⟨r.old i a ha, (r.fr i a ha).1, fun j hj => by
      have hj : a ∈ (if j = i then [] else g.ow j) := hj
      by_cases e : j = i
      · rw [if_pos e] at hj; cases hj
      · rw [if_neg e] at hj; exact e (r.dj j i a hj ha), (r.fr i a ha).2⟩
    refine h κ _ { s with env := s.env.set i none } ⟨g.F, g.H, fun j => if j = i then [] else g.ow j⟩ v rfl r1 ⟨bs.kle, bs.kf, bs.sub, bs.keep, bs.new⟩ ?_
    cases t with
    | leaf d => exact rt.1
    | own ds =>
      obtain ⟨a, vs, e1, e2, q, t⟩ := rt
      exact ⟨a, vs, e1, q, t, own a (by rw [e2]; simp)⟩
    | own2 dss =>
      obtain ⟨a, bs', e1, e2, q, t⟩ := rt
      have nd := r.nd i
      rw [e2] at nd
      exact ⟨a, bs', e1, q, t, fun b hb => own b (by rw [e2]; exact hb), nd⟩
    | dct ks ds =>
      obtain ⟨a, ws, e1, e2, q, ek, t⟩ := rt
      exact ⟨a, ws, e1, q, ek, t, own a (by rw [e2]; simp)⟩
end
end Ev

/-! loops, try, raise, append, several at once, the cup -/
namespace Ev
open PySem PySem.Spec PyProof.Rows L2
section
variable {L : Law} {f : Frm} {pos : Pos}
/-- Later, then on -/
theorem s_for {tg it : Expr} {xs : List Stmt} {mg mi : Sm} {body : St → Out} {tv : List Nat} (hi : OkI L f tg it mi) (hg : OkG L f tg mg tv) (hb : OkSs L f xs body) : OkS L f (.For tg it xs [] pos) (fun s => (mi.i true s).out fun ds s => forL mg.g body ds s) := fun W X c => by
  refine PS.imp (ps_for c.po c.calm (hi.i true W X c) (hg.g W X c) (hb W X c) (hi.fs _)) fun D σ H ⟨κ0, F0, H0, κ, s, g, e, r, bs, h⟩ => ?_
  subst e
  refine ⟨κ, H0, s, g, rfl, r, (h.out r bs).imp fun ds s1 g1 r1 st1 h1 J hJ => ?_⟩
  obtain ⟨G, Y, w, stay, yld⟩ := hJ
  have bs1 := bs.step r st1
  let Pv : Nat → L2.St → Hp → Prop := fun i σ' H' => ∃ κi si gi, gi.H = H' ∧ Rel L.Γ κi H0 σ' si gi ∧ Base κ0 F0 H0 κi gi ∧ KLe κ κi ∧ Later κ true g1 gi ∧ FinO L.Γ κ0 F0 H0 W (forL mg.g body (ds.drop i) si) D
  refine for_it w Pv ?_ ?_ ?_ ?_
  · exact ⟨κ, s1, g1, rfl, r1, bs1, .rfl', ⟨Sub.refl _, r1.sub, fun z => nomatch z⟩, by rw [List.drop_zero]; exact h1⟩
  · rintro i σ' H' _ ⟨κi, si, gi, rfl, ri, bi, kl, la, _⟩
    exact stay gi la
  · rintro i x σ' H1 H' hi' ⟨κi, si, gi, rfl, ri, bi, kl, la, hf⟩ hY
    have hd : ds[i]? = some ds[i] := by simp [hi']
    obtain ⟨g2, e2, r2, st2, p2⟩ := yld i ds[i] gi.H x H' hd hY κi H0 _ si gi rfl kl ri la
    rw [List.drop_eq_getElem_cons hi'] at hf
    simp only [forL] at hf
    cases q : mg.g (.val ds[i]) si with
    | exc cc s' => exact absurd q (hg.nox _ _ _ _)
    | bad => rw [q] at hf; exact hf.elim
    | ok u sa =>
      rw [q] at hf
      have hf : FinO L.Γ κ0 F0 H0 W (match body sa with
        | .nx s => forL mg.g body (ds.drop (i + 1)) s
        | .ct s => forL mg.g body (ds.drop (i + 1)) s
        | .bk s => .nx s
        | o => o) D := hf
      refine ⟨κi, H0, si, g2, ds[i], sa, e2, r2, p2, q, fun σ2 g3 r3 st3 e3 k3 l3 => ?_⟩
      have b3 : Base κ0 F0 H0 κi g3 := (bi.step ri st2).step r2 st3
      have la3 : Later κ true g1 g3 := ⟨la.sub.trans (st2.sub.trans st3.sub), r3.sub, fun z => nomatch z⟩
      refine ⟨κi, g3.F, H0, κi, sa, g3, rfl, r3, b3.part, ?_⟩
      have on : ∀ {κ' : Option Addr} {σ' : L2.St} {s' : St} {g' : Gh}, Rel L.Γ κ' H0 σ' s' g' → Base κi g3.F H0 κ' g' → FinO L.Γ κ0 F0 H0 W (forL mg.g body (ds.drop (i + 1)) s') D → Pv (i + 1) σ' g'.H := fun {κ' σ' s' g'} r' b' hh =>
        ⟨κ', s', g', rfl, r', b3.trans rfl b', fun a z => b'.kle a (kl a z), ⟨la3.sub.trans b'.sub, r'.sub, fun z => nomatch z⟩, hh⟩
      cases qb : body sa with
      | nx s' => rw [qb] at hf; exact fun κ' σ' g' r' b' => on r' b' hf
      | ct s' => rw [qb] at hf; exact fun κ' σ' g' r' b' => on r' b' hf
      | bk s' => rw [qb] at hf; exact fun κ' σ' g' r' b' => hf κ' σ' g' r' (b3.trans rfl b')
      | rt v s' => rw [qb] at hf; exact fun κ' σ' s'' g' u e r' b' hu => hf κ' σ' s'' g' u e r' (b3.trans rfl b') hu
      | xc cc s' => rw [qb] at hf; exact fun κ' σ' g' r' b' => hf κ' σ' g' r' (b3.trans rfl b')
      | bad => rw [qb] at hf; exact hf.elim
  · rintro σ' H' ⟨κi, si, gi, rfl, ri, bi, kl, la, hf⟩
    rw [List.drop_eq_nil_of_le (Nat.le_refl _)] at hf
    exact hf κi σ' gi ri bi
theorem s_while {c : Expr} {xs : List Stmt} {mc : Sm} {body : St → Out} {n : Nat} (hc : OkE L f c mc) (hb : OkSs L f xs body) : OkS L f (.While c xs [] pos) (whileL mc.t body n) := fun W X cx => by
  refine PS.imp (ps_while cx.po (hc.t W X cx) (hb W X cx)) fun D σ H ⟨κ0, F0, H0, κ, s, g, e, r, bs, h⟩ => ?_
  subst e
  let Wv : Nat → L2.St → Hp → Prop := fun m σ' H' => ∃ κi si gi, gi.H = H' ∧ Rel L.Γ κi H0 σ' si gi ∧ Base κ0 F0 H0 κi gi ∧ FinO L.Γ κ0 F0 H0 W (whileL mc.t body m si) D
  refine ⟨Wv, ⟨n, κ, s, g, rfl, r, bs, h⟩, ?_⟩
  rintro m σ' H' ⟨κi, si, gi, rfl, ri, bi, hf⟩
  cases m with
  | zero => exact hf.elim
  | succ m =>
    refine ⟨κi, H0, si, gi, rfl, ri, (FinO.out (f := fun k s => match k with
      | true => (match body s with
        | .nx s => whileL mc.t body m s
        | .ct s => whileL mc.t body m s
        | .bk s => .nx s
        | o => o)
      | false => .nx s) hf ri bi).imp fun k s1 g1 r1 st1 h1 => ?_⟩
    have b1 := bi.step ri st1
    cases k with
    | false => exact iteF (h1 κi σ' g1 r1 b1)
    | true =>
      have h1 : FinO L.Γ κ0 F0 H0 W (match body s1 with
        | .nx s => whileL mc.t body m s
        | .ct s => whileL mc.t body m s
        | .bk s => .nx s
        | o => o) D := h1
      refine iteT ⟨fun σ' H' => ∃ m', m' < m + 1 ∧ Wv m' σ' H', fun _ _ z => z, κ0, F0, H0, κi, s1, g1, rfl, r1, b1, ?_⟩
      cases qb : body s1 with
      | nx s' => rw [qb] at h1; exact fun κ' σ' g' r' b' => ⟨m, Nat.lt_succ_self m, κ', s', g', rfl, r', b', h1⟩
      | ct s' => rw [qb] at h1; exact fun κ' σ' g' r' b' => ⟨m, Nat.lt_succ_self m, κ', s', g', rfl, r', b', h1⟩
      | bk s' => rw [qb] at h1; exact h1
      | rt v s' => rw [qb] at h1; exact h1
      | xc cc s' => rw [qb] at h1; exact h1
      | bad => rw [qb] at h1; exact h1.elim
/-- a list of one's own is changed -/
theorem Rel.setOwn {Γ : Gam} {κ : Option Addr} {H0 : Hp} {σ : L2.St} {s : St} {g : Gh} (r : Rel Γ κ H0 σ s g) {i : Nat} {xs ys : List D} {a : Addr} {vs : List V} (hs : getS s i = some (.own xs)) (hv : σ[i]? = some (some (.ref a))) (ho : g.ow i = [a]) (t : RpL Γ κ g.F vs ys) : Rel Γ κ H0 σ (setS s i (.own ys)) ⟨g.F, L2.upd g.H a (.lst vs), g.ow⟩ := by
  have hi := getS_lt hs
  have fa := r.fr i a (by rw [ho]; simp)
  refine ⟨?_, fun j u h => ?_, fun j h => ?_, r.nd, r.dj, r.fr, fun b u h => ?_, r.cup.same (fun _ _ => rfl) fun b e => upd_ne fun z => fa.2 (z ▸ e), r.old, fun b h => ?_⟩
  · show (s.env.set i (some (.own ys))).length = σ.length
    rw [List.length_set]; exact r.len
  · rw [getS_set hi] at h
    by_cases e : j = i
    · subst e
      rw [if_pos rfl] at h
      cases h
      exact ⟨_, hv, a, vs, rfl, ho, upd_same, t⟩
    · rw [if_neg e] at h
      obtain ⟨w, hw, q⟩ := r.slot j u h
      refine ⟨w, hw, RT.mono .rfl' (Sub.refl _) (fun b hb => upd_ne fun z => ?_) q⟩
      exact e (r.dj j i b hb (by rw [ho, z]; simp))
  · rw [getS_set hi] at h
    by_cases e : j = i
    · rw [if_pos e] at h; cases h
    · rw [if_neg e] at h; exact r.emp j h
  · show L2.upd g.H a (.lst vs) b = some u
    rw [upd_ne fun z => by rw [z, fa.1] at h; cases h]
    exact r.sub b u h
  · show L2.upd g.H a (.lst vs) b ≠ none
    by_cases e : b = a
    · rw [e, upd_same]; exact fun z => nomatch z
    · rw [upd_ne e]; exact r.grow b h
theorem Base.setOwn {κ0 κ : Option Addr} {F0 H0 : Hp} {g : Gh} (b : Base κ0 F0 H0 κ g) {a : Addr} {o : HO} (h : H0 a = none) : Base κ0 F0 H0 κ ⟨g.F, L2.upd g.H a o, g.ow⟩ := ⟨b.kle, b.kf, b.sub, fun x u q n => by
  show L2.upd g.H a o x = some u
  rw [upd_ne fun z => by rw [z, h] at q; cases q]
  exact b.keep x u q n, b.new⟩
/-- x.append(e) -/
theorem s_append {i : Nat} {x : Str} {p ap cp : Pos} {e : Expr} {me : Sm} (hN : f.N[i]? = some x) (hv : Vis f.sc x) (hd : (x == ("__debug__" : Str)) = false) (hcd : (x == ("__classdict__" : Str)) = false) (he : OkE L f e me) (hl : (ap.endLine == cp.line) = true) :
    OkS L f (.Expr (.Call (.Attribute (.Name x p) "append" ap) [e] [] cp) pos) (fun s => match getS s i with
    | some (.own _) => (me.b s).out fun v s => (match getS s i with
      | some (.own xs) => if xs.length < big then .nx (setS s i (.own (xs ++ [v.d]))) else .bad
      | _ => .bad)
    | _ => .bad) := fun W X c => by
  have ha : PA X [e] (tCons (spB L.Γ W me.b) tNil) := pa_cons (he.b W X c) pa_nil (he.pl.st _ _)
  have hb1 : backTo cp (starEach [e] X.env) = [(false, eval e X.env)] := by rw [he.pl.st]; rfl
  refine PS.imp (ps_expr (pe_bm PySem.F.plainAttrs_list PySem.F.slot_list_append PySem.F.type_list_append mt_append (pe_var (i := i) (by rw [c.N]; exact hN) (by rw [c.sc]; exact hv) hd hcd) ha rfl (by rw [hb1]; rfl) hl (he.pl.st _ _) rfl)) fun D σ H ⟨κ0, F0, H0, κ, s, g, e, r, bs, h⟩ => ?_
  subst e
  dsimp only at h
  cases hs : getS s i with
  | none => rw [hs] at h; exact h.elim
  | some t =>
    rw [hs] at h
    cases t with
    | leaf d => exact h.elim
    | own2 d => exact h.elim
    | dct _ _ => exact h.elim
    | own ds =>
      obtain ⟨v, hv, a, vs, ev, eo, q, t⟩ := r.slot i _ hs
      refine ⟨v, hv, ?_, ?_⟩
      · rw [ev]; exact .inl ⟨rfl, vs, .of q⟩
      refine ⟨κ, H0, s, g, rfl, r, (FinO.out (f := fun v s => (match getS s i with
        | some (.own xs) => if xs.length < big then Out.nx (setS s i (.own (xs ++ [v.d]))) else .bad
        | _ => .bad)) h r bs).imp fun b s1 g1 r1 st1 h1 u hu => ?_⟩
      obtain ⟨g2, e2, r2, st2, p2⟩ := RB.frz' r1 st1 hu
      have b2 := bs.step r st2
      cases hs1 : getS s1 i with
      | none => simp only [hs1] at h1; exact h1.elim
      | some t1 =>
        cases t1 with
        | leaf d => simp only [hs1] at h1; exact h1.elim
        | own2 d => simp only [hs1] at h1; exact h1.elim
        | dct _ _ => simp only [hs1] at h1; exact h1.elim
        | own ds1 =>
          simp only [hs1] at h1
          by_cases hlen : ds1.length < big
          · rw [if_pos hlen] at h1
            obtain ⟨v1, hv1, a1, vs1, ev1, eo1, q1, t1⟩ := r2.slot i _ hs1
            rw [hv] at hv1
            cases hv1
            have e3 : a1 = a := by rw [ev1] at ev; injection ev
            subst e3
            refine ⟨a1, vs1, u, ev1, rfl, by rw [← e2]; exact q1, by rw [t1.length, ← big_eq]; exact hlen, ?_⟩
            have h0 : H0 a1 = none := r2.old i a1 (by rw [eo1]; simp)
            have r3 := r2.setOwn (ys := ds1 ++ [b.d]) (vs := vs1 ++ [u]) hs1 (by rw [hv, ev1]) eo1 (t1.append (.cons p2 .nil))
            rw [← e2]
            exact h1 κ σ _ r3 (b2.setOwn h0)
          · rw [if_neg hlen] at h1; exact h1.elim
/-- raise X('m') -/
structure RaiseOk (L : Law) (k : Nat) (x : Str) : Prop where
  mg : L.mg x = some (.ref (L.Γ.ca k))
  ok : ∃ (bmB : List Value) (B newId initId : String), ExcBaseFacts B newId initId bmB ∧ PySem.W.excIn L.Γ.K (L.Γ.ca k) bmB newId = true
  kp : PySem.W.keepIn L.Γ.K (.ref (L.Γ.ca k)) = true
  r1 : PySem.W.subIn L.Γ.K (.ref (L.Γ.ca k)) (.type "BaseException") = some true
  r2 : PySem.W.typeIn L.Γ.K (.ref (L.Γ.ca k)) = some (.type "type")
  db : (x == ("__debug__" : Str)) = false
theorem s_raise {k : Nat} {x y : Str} {j : Nat} {p p2 p3 : Pos} (h : RaiseOk L k x) (hg : f.sc.names.lookup x = some .globalImplicit) : OkS L f (.Raise (some (.Call (.Name x p) [.Constant (.str y) j p2] [] p3)) none pos) (.xc k) := fun W X c => by
  obtain ⟨bmB, B, n1, n2, F, ex⟩ := h.ok
  have hr : Raises X (.ref (L.Γ.ca k)) := raises_own (by rw [c.K]; exact h.r1) (by rw [c.K]; exact h.r2)
  refine PS.imp (ps_raise c.calm c.tk (pmk_own F (by rw [c.K]; exact ex) (by rw [c.mg]; exact h.mg) (by rw [c.K]; exact h.kp) hr (show X.env.scope.names.lookup _ = _ by rw [c.sc]; exact hg) h.db)) fun D σ H ⟨κ0, F0, H0, κ, s, g, e, r, bs, hh⟩ => ?_
  subst e
  exact hh κ σ g r bs
end
end Ev

/-! targets with an index; several at once -/
namespace Ev
open PySem PySem.Spec PyProof.Rows L2
section
variable {Γ : Gam} {κ κ0 : Option Addr} {F0 H0 : Hp} {σ : L2.St} {s : St} {g g' : Gh} {W : WX}
/-- a target's end -/
def FinU (Γ : Gam) (κ0 : Option Addr) (F0 H0 : Hp) (W : WX) (r : R Unit) (Q : L2.St → Hp → Prop) : Prop := match r with
  | .ok _ s' => ∀ κ' σ' g', Rel Γ κ' H0 σ' s' g' → Base κ0 F0 H0 κ' g' → Q σ' g'.H
  | .exc c s' => ∀ κ' σ' g', Rel Γ κ' H0 σ' s' g' → Base κ0 F0 H0 κ' g' → W (.ref (Γ.ca c)) none σ' g'.H
  | .bad => False
theorem FinU.bind {α : Type} {r : R α} {k : α → St → R Unit} {Q : L2.St → Hp → Prop} (h : FinU Γ κ0 F0 H0 W (r.bind k) Q) (rr : Rel Γ κ H0 σ s g) (b : Base κ0 F0 H0 κ g) : Fin Γ κ H0 σ W r g (fun a s _ => FinU Γ κ0 F0 H0 W (k a s) Q) := by
  cases r with
  | ok a s1 => exact fun _ _ _ => h
  | exc c s1 => exact fun g' r' st => h κ σ g' r' (b.step rr st)
  | bad => exact h.elim
theorem freezeB {v : V} {b : B} (r : Rel Γ κ H0 σ s g) (bs : Base κ0 F0 H0 κ g) (p : RB Γ κ H0 g v b) : ∃ g1, g1.H = g.H ∧ Rel Γ κ H0 σ s g1 ∧ Base κ0 F0 H0 κ g1 ∧ Rp Γ κ g1.F v b.d ∧ g1.ow = g.ow := by
  have nb : ∀ {F' : Hp}, Sub g.F F' → (∀ a, F' a ≠ none → g.F a ≠ none ∨ H0 a = none) → Base κ0 F0 H0 κ ⟨F', g.H, g.ow⟩ := fun {F'} sb hn => ⟨bs.kle, bs.kf, bs.sub.trans sb, bs.keep, fun a ha => (hn a ha).elim (bs.new a) fun z => .inr (.inl z)⟩
  cases b with
  | val d => exact ⟨g, rfl, r, bs, p, rfl⟩
  | new ds =>
    obtain ⟨a, vs, ea, qa, ta, n, l⟩ := p
    obtain ⟨r1, st1, sb⟩ := r.frz qa l
    refine ⟨⟨L2.upd g.F a (.lst vs), g.H, g.ow⟩, rfl, r1, nb sb fun y hy => ?_, ?_, rfl⟩
    · by_cases q : y = a
      · rw [q]; exact .inr n
      · rw [upd_ne q] at hy; exact .inl hy
    · show Rp Γ κ _ v (.lst ds)
      unfold Rp
      exact ⟨a, vs, ea, upd_same, RpL.mono .rfl' sb ds vs ta⟩
  | new2 dss =>
    obtain ⟨a, as, ea, qa, ta, hl, nd⟩ := p
    have nd' := List.nodup_cons.mp nd
    obtain ⟨F1, r1, sb1, rp, nw⟩ := r.frzRows ta (fun b hb => (hl b (List.mem_cons_of_mem _ hb)).2) nd'.2
    obtain ⟨h0, l1, l2, l3⟩ := hl a List.mem_cons_self
    have l' : Loose κ (⟨F1, g.H, g.ow⟩ : Gh) a := ⟨by
      cases z : F1 a with
      | none => exact z
      | some u =>
        rcases nw a (by rw [z]; exact fun y => nomatch y) with y | y
        · exact absurd l1 y
        · exact absurd y nd'.1, l2, l3⟩
    obtain ⟨r2, st2, sb2⟩ := r1.frz (p := a) qa l'
    refine ⟨⟨L2.upd F1 a (.lst (as.map V.ref)), g.H, g.ow⟩, rfl, r2, nb (sb1.trans sb2) fun y hy => ?_, ?_, rfl⟩
    · by_cases q : y = a
      · rw [q]; exact .inr h0
      · rw [upd_ne q] at hy
        rcases nw y hy with z | z
        · exact .inl z
        · exact .inr (hl y (List.mem_cons_of_mem _ z)).1
    · show Rp Γ κ _ v (.lst (dss.map .lst))
      unfold Rp
      exact ⟨a, as.map V.ref, ea, upd_same, RpL.mono .rfl' sb2 _ _ rp⟩
  | newd ks ds =>
    obtain ⟨a, ws, ea, qa, ek, ta, n, l⟩ := p
    obtain ⟨r1, st1, sb⟩ := r.frz qa l
    refine ⟨⟨L2.upd g.F a (.dT ws), g.H, g.ow⟩, rfl, r1, nb sb fun y hy => ?_, ?_, rfl⟩
    · by_cases q : y = a
      · rw [q]; exact .inr n
      · rw [upd_ne q] at hy; exact .inl hy
    · show Rp Γ κ _ v (.dct false ks ds)
      unfold Rp
      exact ⟨a, ws, ea, .inl upd_same, ek, RpL.mono .rfl' sb ds _ ta⟩
/-- the cup is changed -/
theorem Rel.setCup (r : Rel Γ κ H0 σ s g) {a : Addr} (hκ : κ = some a) (x y : Int) : Rel Γ κ H0 σ { s with cup := some (x, y) } ⟨g.F, L2.upd g.H a (.lst [.int x, .int y]), g.ow⟩ := by
  obtain ⟨fa, _⟩ := r.κF hκ
  refine ⟨r.len, fun j u h => ?_, r.emp, r.nd, r.dj, r.fr, fun b u h => ?_, ?_, r.old, fun b h => ?_⟩
  · obtain ⟨w, hw, q⟩ := r.slot j u h
    exact ⟨w, hw, RT.mono .rfl' (Sub.refl _) (fun b hb => upd_ne fun z => (r.fr j b hb).2 (by rw [hκ, z])) q⟩
  · show L2.upd g.H a _ b = some u
    rw [upd_ne fun z => by rw [z, fa] at h; cases h]
    exact r.sub b u h
  · subst hκ
    exact ⟨fa, upd_same⟩
  · show L2.upd g.H a _ b ≠ none
    by_cases e : b = a
    · rw [e, upd_same]; exact fun z => nomatch z
    · rw [upd_ne e]; exact r.grow b h
theorem Base.setCup (b : Base κ0 F0 H0 κ g) {a : Addr} {o : HO} (hκ : κ = some a) : Base κ0 F0 H0 κ ⟨g.F, L2.upd g.H a o, g.ow⟩ := ⟨b.kle, b.kf, b.sub, fun x u q n => by
  show L2.upd g.H a o x = some u
  rw [upd_ne fun z => b.kne (by rw [q]; exact fun z => nomatch z) n (by rw [hκ, z])]
  exact b.keep x u q n, b.new⟩
/-- rows by place -/
theorem Rows.get {F H : Hp} : ∀ {dss : List (List D)} {as : List Addr} {i : Nat} {ds : List D}, Rows Γ κ F H as dss → dss[i]? = some ds → ∃ a vs, as[i]? = some a ∧ H a = some (.lst vs) ∧ RpL Γ κ F vs ds
  | [], _, _, _, _, e => by simp at e
  | x :: dss, as, 0, ds, h, e => by
    unfold Rows at h
    obtain ⟨a, as', vs, ea, q, t, _⟩ := h
    simp at e
    subst e
    exact ⟨a, vs, by rw [ea]; rfl, q, t⟩
  | x :: dss, as, i + 1, ds, h, e => by
    unfold Rows at h
    obtain ⟨a, as', vs, ea, q, t, rr⟩ := h
    obtain ⟨b, ws, h1, h2, h3⟩ := Rows.get (i := i) rr (by simpa using e)
    exact ⟨b, ws, by rw [ea]; simpa using h1, h2, h3⟩
theorem Rows.set {F H : Hp} {b : Addr} {ws : List V} {es : List D} (ht : RpL Γ κ F ws es) : ∀ {dss : List (List D)} {as : List Addr} {i : Nat}, Rows Γ κ F H as dss → as[i]? = some b → as.Nodup → Rows Γ κ F (L2.upd H b (.lst ws)) as (dss.set i es)
  | [], as, i, h, e, nd => by unfold Rows at h; subst h; simp at e
  | x :: dss, as, 0, h, e, nd => by
    unfold Rows at h
    obtain ⟨a, as', vs, ea, q, t, rr⟩ := h
    subst ea
    simp at e
    subst e
    have nd' := List.nodup_cons.mp nd
    show Rows Γ κ F _ _ (es :: dss)
    unfold Rows
    exact ⟨a, as', ws, rfl, upd_same, ht, Rows.mono .rfl' (Sub.refl _) (fun c hc => upd_ne (show c ≠ a from fun z => nd'.1 (by rw [← z]; exact hc))) rr⟩
  | x :: dss, as, i + 1, h, e, nd => by
    unfold Rows at h
    obtain ⟨a, as', vs, ea, q, t, rr⟩ := h
    subst ea
    have nd' := List.nodup_cons.mp nd
    have e' : as'[i]? = some b := by simpa using e
    have hb : b ∈ as' := List.mem_of_getElem? e'
    show Rows Γ κ F _ _ (x :: dss.set i es)
    unfold Rows
    exact ⟨a, as', vs, rfl, by rw [upd_ne (show a ≠ b from fun z => nd'.1 (by rw [z]; exact hb))]; exact q, t, Rows.set ht rr e' nd'.2⟩
theorem Rows.length {F H : Hp} : ∀ {dss : List (List D)} {as : List Addr}, Rows Γ κ F H as dss → as.length = dss.length
  | [], as, h => by unfold Rows at h; rw [h]; rfl
  | d :: dss, as, h => by
    unfold Rows at h
    obtain ⟨a, as', vs, e, _, _, rr⟩ := h
    rw [e, List.length_cons, List.length_cons, rr.length]
theorem Rel.setOwn2 (r : Rel Γ κ H0 σ s g) {i j : Nat} {xss : List (List D)} {es : List D} {a b : Addr} {bs : List Addr} {ws : List V} (hs : getS s i = some (.own2 xss)) (hv : σ[i]? = some (some (.ref a))) (ho : g.ow i = a :: bs) (hH : g.H a = some (.lst (bs.map V.ref))) (rr : Rows Γ κ g.F g.H bs xss) (hb : bs[j]? = some b)
    (t : RpL Γ κ g.F ws es) : Rel Γ κ H0 σ (setS s i (.own2 (xss.set j es))) ⟨g.F, L2.upd g.H b (.lst ws), g.ow⟩ := by
  have hi := getS_lt hs
  have mb : b ∈ g.ow i := by rw [ho]; exact List.mem_cons_of_mem _ (List.mem_of_getElem? hb)
  have nd := r.nd i
  rw [ho] at nd
  have nd' := List.nodup_cons.mp nd
  have fa := r.fr i b mb
  refine ⟨?_, fun k u h => ?_, fun k h => ?_, r.nd, r.dj, r.fr, fun c u h => ?_, r.cup.same (fun _ _ => rfl) fun c e => upd_ne fun z => fa.2 (z ▸ e), r.old, fun c h => ?_⟩
  · show (s.env.set i (some (.own2 (xss.set j es)))).length = σ.length
    rw [List.length_set]; exact r.len
  · rw [getS_set hi] at h
    by_cases e : k = i
    · subst e
      rw [if_pos rfl] at h
      cases h
      exact ⟨_, hv, a, bs, rfl, ho, (upd_ne (show a ≠ b from fun z => nd'.1 (by rw [z]; exact List.mem_of_getElem? hb))).trans hH, Rows.set t rr hb nd'.2⟩
    · rw [if_neg e] at h
      obtain ⟨w, hw, q⟩ := r.slot k u h
      refine ⟨w, hw, RT.mono .rfl' (Sub.refl _) (fun c hc => upd_ne fun z => ?_) q⟩
      exact e (r.dj k i c hc (by rw [z]; exact mb))
  · rw [getS_set hi] at h
    by_cases e : k = i
    · rw [if_pos e] at h; cases h
    · rw [if_neg e] at h; exact r.emp k h
  · show L2.upd g.H b (.lst ws) c = some u
    rw [upd_ne fun z => by rw [z, fa.1] at h; cases h]
    exact r.sub c u h
  · show L2.upd g.H b (.lst ws) c ≠ none
    by_cases e : c = b
    · rw [e, upd_same]; exact fun z => nomatch z
    · rw [upd_ne e]; exact r.grow c h
end
theorem place_ix (n : Nat) (i : Int) : ixN n i = place n i := rfl
section
variable {L : Law} {f : Frm} {pos : Pos}
theorem a_put1 {k : Nat} {x : Str} {p : Pos} {i : Expr} {mi m : Sm} (hN : f.N[k]? = some x) (hv : Vis f.sc x) (hd : (x == ("__debug__" : Str)) = false) (hcd : (x == ("__classdict__" : Str)) = false) (hi : OkE L f i mi) (hm : m.g = put1 k mi)
    (ha : ∀ env v, assign (.Subscript (.Name x p) i pos) env v = (do
      let ov ← holding [v] (eval (.Name x p) env)
      let iv ← holding [v, ov] (eval i env)
      standAt pos
      holding [v, ov, iv] (setItem ov iv v)
      release [v, ov, iv] [])) : OkA L f (.Subscript (.Name x p) i pos) m := by
  refine ⟨fun _ _ => rfl, fun W X c => PG.imp (pg_sub (pe_var (i := k) (by rw [c.N]; exact hN) (by rw [c.sc]; exact hv) hd hcd) (hi.p W X c) set_list (ha X.env)) fun v σ H Q h => ?_⟩
  obtain ⟨κ0, F0, H0, κ, s, g, b, e, r, bs, pb, h⟩ := h
  subst e
  obtain ⟨g1, e1, r1, b1, p1, _⟩ := freezeB r bs pb
  rw [hm] at h
  have h : FinU L.Γ κ0 F0 H0 W (put1 k mi b s) Q := h
  unfold put1 at h
  cases hs : getS s k with
  | none => rw [hs] at h; exact h.elim
  | some t =>
    rw [hs] at h
    obtain ⟨o, ho, _⟩ := r1.slot k t hs
    refine ⟨o, ho, κ, H0, s, g1, e1, r1, (FinU.bind h r1 b1).imp fun d s2 g2 r2 st2 h2 y hy => ?_⟩
    have b2 := b1.step r1 st2
    have p2 := Rp.mono .rfl' st2.sub _ _ p1
    cases hs2 : getS s2 k with
    | none => rw [hs2] at h2; exact h2.elim
    | some t2 =>
      rw [hs2] at h2
      obtain ⟨o2, ho2, rt2⟩ := r2.slot k t2 hs2
      rw [ho] at ho2
      cases ho2
      cases t2 with
      | own xs =>
        cases d with
        | int j =>
          obtain ⟨a, vs, ea, eo, q, t⟩ := rt2
          cases hp : place xs.length j with
          | none => simp only [hp] at h2; exact h2.elim
          | some jn =>
            simp only [hp] at h2
            have h2 : ∀ κ' σ' g', Rel L.Γ κ' H0 σ' (setS s2 k (.own (xs.set jn b.d))) g' → Base κ0 F0 H0 κ' g' → Q σ' g'.H := h2
            refine ⟨a, vs, j, jn, ea, hy.int, q, by rw [place_ix, t.length]; exact hp, ?_⟩
            exact h2 κ σ _ (r2.setOwn hs2 (by rw [ho, ea]) eo (t.set jn p2)) (b2.setOwn (r2.old k a (by rw [eo]; simp)))
        | _ => exact h2.elim
      | leaf dd =>
        cases dd with
        | cup =>
          cases d with
          | int j =>
            have rt3 : Rp L.Γ κ g2.F o .cup := rt2.1
            unfold Rp at rt3
            obtain ⟨a, ea, ek⟩ := rt3
            obtain ⟨_, m0, n0, ec, q⟩ := r2.κF ek
            simp only [ec] at h2
            cases hb : b.d with
            | int z =>
              simp only [hb] at h2
              rw [hb] at p2
              have ev : v = .int z := by unfold Rp at p2; exact p2
              by_cases j0 : j = 0
              · subst j0
                rw [if_pos rfl] at h2
                refine ⟨a, _, 0, 0, ea, hy.int, q, rfl, ?_⟩
                rw [ev]
                exact h2 κ σ _ (r2.setCup ek z n0) (b2.setCup ek)
              · rw [if_neg j0] at h2
                by_cases j1 : j = 1
                · subst j1
                  rw [if_pos rfl] at h2
                  refine ⟨a, _, 1, 1, ea, hy.int, q, rfl, ?_⟩
                  rw [ev]
                  exact h2 κ σ _ (r2.setCup ek m0 z) (b2.setCup ek)
                · rw [if_neg j1] at h2; exact h2.elim
            | _ => simp only [hb] at h2; exact h2.elim
          | _ => exact h2.elim
        | _ => cases d <;> exact h2.elim
      | own2 _ => cases d <;> exact h2.elim
      | dct _ _ => cases d <;> exact h2.elim
theorem a_put2 {k : Nat} {x : Str} {p p2 : Pos} {i j : Expr} {mi mj m : Sm} (hN : f.N[k]? = some x) (hv : Vis f.sc x) (hd : (x == ("__debug__" : Str)) = false) (hcd : (x == ("__classdict__" : Str)) = false) (hj : OkE L f j mj) (hi : OkE L f i mi) (hm : m.g = put2 k mj mi)
    (ha : ∀ env v, assign (.Subscript (.Subscript (.Name x p) j p2) i pos) env v = (do
      let ov ← holding [v] (eval (.Subscript (.Name x p) j p2) env)
      let iv ← holding [v, ov] (eval i env)
      standAt pos
      holding [v, ov, iv] (setItem ov iv v)
      release [v, ov, iv] [])) : OkA L f (.Subscript (.Subscript (.Name x p) j p2) i pos) m := by
  refine ⟨fun _ _ => rfl, fun W X c => PG.imp (pg_sub (pe_ix ix_list (pe_var (i := k) (by rw [c.N]; exact hN) (by rw [c.sc]; exact hv) hd hcd) (hj.p W X c) hj.pl.ix) (hi.p W X c) set_list (ha X.env)) fun v σ H Q h => ?_⟩
  obtain ⟨κ0, F0, H0, κ, s, g, b, e, r, bs, pb, h⟩ := h
  subst e
  obtain ⟨g1, e1, r1, b1, p1, _⟩ := freezeB r bs pb
  rw [hm] at h
  have h : FinU L.Γ κ0 F0 H0 W (put2 k mj mi b s) Q := h
  unfold put2 at h
  cases hs : getS s k with
  | none => rw [hs] at h; exact h.elim
  | some t =>
    rw [hs] at h
    cases t with
    | leaf d => exact h.elim
    | own d => exact h.elim
    | dct _ _ => exact h.elim
    | own2 xs0 =>
      obtain ⟨o, ho, _⟩ := r1.slot k _ hs
      refine ⟨o, ho, κ, H0, s, g1, e1, r1, (FinU.bind (k := fun y s => (match getS s k, y with
        | some (.own2 xss), .int j => (match place xss.length j with
          | some a => (if a < xss.length then (mi.p s).bind fun x s => (match getS s k, x with
            | some (.own2 xss), .int i => (match xss[a]? with
              | some xs => (match place xs.length i with
                | some c => .ok () (setS s k (.own2 (xss.set a (xs.set c b.d))))
                | none => .bad)
              | none => .bad)
            | _, _ => .bad) else .bad)
          | none => .bad)
        | _, _ => .bad)) h r1 b1).imp fun d s2 g2 r2 st2 h2 y hy => ?_⟩
      have b2 := b1.step r1 st2
      have p2 := Rp.mono .rfl' st2.sub _ _ p1
      cases hs2 : getS s2 k with
      | none => simp only [hs2] at h2; exact h2.elim
      | some t2 =>
        simp only [hs2] at h2
        cases t2 with
        | leaf _ => exact h2.elim
        | own _ => exact h2.elim
        | dct _ _ => exact h2.elim
        | own2 xs2 =>
          cases d with
          | int jj =>
            cases hp : place xs2.length jj with
            | none => simp only [hp] at h2; exact h2.elim
            | some a =>
              simp only [hp] at h2
              by_cases hlt : a < xs2.length
              · rw [if_pos hlt] at h2
                obtain ⟨o2, ho2, A, as, ea, eo, q, rws⟩ := r2.slot k _ hs2
                rw [ho] at ho2
                cases ho2
                have hds : xs2[a]? = some xs2[a] := by simp [hlt]
                obtain ⟨ba, vs, eb, qb, tb⟩ := rws.get hds
                refine ⟨A, as.map V.ref, jj, .ref ba, ea, hy.int, .of q, ?_, ?_⟩
                · rw [at_eq, List.length_map, rws.length, hp]
                  show (as.map V.ref)[a]? = some (.ref ba)
                  rw [List.getElem?_map, eb]; rfl
                refine ⟨κ, H0, s2, g2, rfl, r2, (FinU.bind h2 r2 b2).imp fun d3 s3 g3 r3 st3 h3 z hz => ?_⟩
                have b3 := b2.step r2 st3
                have p3 := Rp.mono .rfl' st3.sub _ _ p2
                have ba_k : κ ≠ some ba := (r2.fr k ba (by rw [eo]; exact List.mem_cons_of_mem _ (List.mem_of_getElem? eb))).2
                cases hs3 : getS s3 k with
                | none => simp only [hs3] at h3; exact h3.elim
                | some t3 =>
                  simp only [hs3] at h3
                  cases t3 with
                  | leaf _ => exact h3.elim
                  | own _ => exact h3.elim
                  | dct _ _ => exact h3.elim
                  | own2 xs3 =>
                    cases d3 with
                    | int ii =>
                      cases hx3 : xs3[a]? with
                      | none => simp only [hx3] at h3; exact h3.elim
                      | some es =>
                        simp only [hx3] at h3
                        cases hc : place es.length ii with
                        | none => simp only [hc] at h3; exact h3.elim
                        | some cc =>
                          simp only [hc] at h3
                          have h3 : ∀ κ' σ' g', Rel L.Γ κ' H0 σ' (setS s3 k (.own2 (xs3.set a (es.set cc b.d)))) g' → Base κ0 F0 H0 κ' g' → Q σ' g'.H := h3
                          obtain ⟨o3, ho3, A3, as3, ea3, eo3, q3, rws3⟩ := r3.slot k _ hs3
                          rw [ho] at ho3
                          cases ho3
                          have eA : A3 = A := by rw [ea3] at ea; injection ea
                          subst eA
                          -- the same rows
                          have eas : as3 = as := by
                            have k1 := st3.keep A3 _ q (r2.fr k A3 (by rw [eo]; simp)).2
                            rw [k1] at q3
                            have q3 := Option.some.inj q3
                            injection q3 with q3
                            exact (List.map_inj_right (fun x y h => by injection h)).mp q3.symm
                          subst eas
                          obtain ⟨bb, ws, eb3, qb3, tb3⟩ := rws3.get hx3
                          rw [eb] at eb3
                          cases eb3
                          refine ⟨ba, ws, ii, cc, rfl, hz.int, qb3, by rw [place_ix, tb3.length]; exact hc, ?_⟩
                          exact h3 κ σ _ (r3.setOwn2 hs3 (by rw [ho, ea3]) eo3 q3 rws3 eb (tb3.set cc p3)) (b3.setOwn (r3.old k ba (by rw [eo3]; exact List.mem_cons_of_mem _ (List.mem_of_getElem? eb))))
                    | _ => exact h3.elim
              · rw [if_neg hlt] at h2; exact h2.elim
          | _ => exact h2.elim
/-- targets in a tuple -/
inductive OkAs (L : Law) (f : Frm) : List Expr → List Sm → Prop where
  | nil : OkAs L f [] []
  | cons {x : Expr} {m : Sm} {xs : List Expr} {ms : List Sm} (h : OkA L f x m) (t : OkAs L f xs ms) : OkAs L f (x :: xs) (m :: ms)
def spGBs (Γ : Gam) (W : WX) (ms : List Sm) : TGs := fun vs σ H Q => ∃ κ0 F0 H0 κ s g ds, g.H = H ∧ Rel Γ κ H0 σ s g ∧ Base κ0 F0 H0 κ g ∧ RpL Γ κ g.F vs ds ∧ FinU Γ κ0 F0 H0 W (sGs ms ds s) Q
theorem OkAs.pgs : ∀ {xs : List Expr} {ms : List Sm}, OkAs L f xs ms → ∀ W X, CxG L f W X → PGs X xs (spGBs L.Γ W ms)
  | _, _, .nil, W, X, c => ⟨fun pins s σ H vs us Q I r ⟨κ0, F0, H0, κ, s1, g, ds, e, rr, bs, p, q⟩ => by
    cases ds with
    | nil =>
      refine pgs_nil.run pins s σ H vs us Q I r ⟨p.inv0, ?_⟩
      subst e
      exact q κ σ g rr bs
    | cons d ds => exact q.elim⟩
  | _, _, .cons (m := m) (ms := ms) h t, W, X, c => ⟨fun pins s σ H vs us Q I r ⟨κ0, F0, H0, κ, s1, g, ds, e, rr, bs, p, q⟩ => by
    refine (pgs_cons (h.g W X c) (t.pgs W X c) (by rw [h.as]; rfl)).run pins s σ H vs us Q I r ?_
    subst e
    cases ds with
    | nil => exact q.elim
    | cons d ds =>
      obtain ⟨v, vs', ev, p1, p2⟩ := p.inv
      refine ⟨v, vs', ev, κ, g.F, H0, κ, s1, g, .val d, rfl, rr, bs.part, p1, ?_⟩
      have q : FinU L.Γ κ0 F0 H0 W ((m.g (.val d) s1).bind fun _ s => sGs ms ds s) Q := q
      cases q1 : m.g (.val d) s1 with
      | ok u s2 =>
        rw [q1] at q
        exact fun κ' σ' g' r' b' => ⟨κ0, F0, H0, κ', s2, g', ds, rfl, r', bs.trans rfl b', RpL.mono b'.kle b'.sub _ _ p2, q⟩
      | exc cc s2 =>
        rw [q1] at q
        exact fun κ' σ' g' r' b' => q κ' σ' g' r' (bs.trans rfl b')
      | bad => rw [q1] at q; exact q.elim⟩
theorem OkAs.each : ∀ {xs : List Expr} {ms : List Sm}, OkAs L f xs ms → ∀ env, (assignEach xs env).length = xs.length ∧ (assignEach xs env).findIdx? (·.1) = none
  | _, _, .nil, env => ⟨rfl, rfl⟩
  | _, _, .cons h t, env => by
    obtain ⟨h1, h2⟩ := t.each env
    rw [h.as]
    refine ⟨by rw [List.length_cons, h1, List.length_cons], ?_⟩
    rw [List.findIdx?_cons]
    simp [h2]
theorem OkAs.len : ∀ {xs : List Expr} {ms : List Sm}, OkAs L f xs ms → xs.length = ms.length
  | _, _, .nil => rfl
  | _, _, .cons _ t => by rw [List.length_cons, List.length_cons, t.len]
theorem sGs_len' : ∀ {ms : List Sm} {ds : List D} {s : St}, ds.length ≠ ms.length → (∃ c s', sGs ms ds s = .exc c s') ∨ sGs ms ds s = .bad ∨ sGs ms ds s = .bad := fun {ms ds s} h => by
  cases q : sGs ms ds s with
  | ok u s' => cases u; exact absurd (sGs_len q) h
  | exc c s' => exact .inl ⟨c, s', rfl⟩
  | bad => exact .inr (.inl rfl)
theorem a_tup {xs : List Expr} {ms : List Sm} {k : Nat} (h : OkAs L f xs ms) (m : Sm) (hm : m.g = fun v s => match items? v.d with
    | some xs => if xs.length = ms.length then sGs ms xs s else .bad
    | none => .bad) : OkA L f (.Tuple xs k pos) m := by
  refine ⟨fun _ _ => rfl, fun W X c => ⟨fun pins s σ H v u Q I r ⟨κ0, F0, H0, κ, s1, g, b, e, rr, bs, pb, q⟩ => ?_⟩⟩
  obtain ⟨e1, e2⟩ := h.each X.env
  subst e
  obtain ⟨g1, eg, r1, b1, p1, _⟩ := freezeB rr bs pb
  have q : FinU L.Γ κ0 F0 H0 W (m.g b s1) Q := q
  rw [hm] at q
  dsimp only at q
  rw [← eg] at I
  cases hb : b.d with
  | tup ds =>
    rw [hb] at q p1
    dsimp only [items?] at q
    by_cases hl : ds.length = ms.length
    · rw [if_pos hl] at q
      unfold Rp at p1
      obtain ⟨a, vs, ea, qa, ta⟩ := p1
      exact (pg_tup c.calm (h.pgs W X c) e1 e2).run pins s σ g1.H v u Q I r ⟨a, vs, ea, by rw [c.K]; exact .inl (.inl (r1.sub a _ qa)), by rw [ta.length, hl, h.len], κ0, F0, H0, κ, s1, g1, ds, rfl, r1, b1, ta, q⟩
    · rw [if_neg hl] at q; exact q.elim
  | lst ds =>
    rw [hb] at q p1
    dsimp only [items?] at q
    by_cases hl : ds.length = ms.length
    · rw [if_pos hl] at q
      unfold Rp at p1
      obtain ⟨a, vs, ea, qa, ta⟩ := p1
      exact (pg_lst c.calm (h.pgs W X c) e1 e2).run pins s σ g1.H v u Q I r ⟨a, vs, ea, .of (r1.sub a _ qa), by rw [ta.length, hl, h.len], κ0, F0, H0, κ, s1, g1, ds, rfl, r1, b1, ta, q⟩
    · rw [if_neg hl] at q; exact q.elim
  | _ => rw [hb] at q; exact q.elim
end
end Ev

/-! several at once; the cup; try; a comprehension stored on its line -/
namespace Ev
open PySem PySem.Spec PyProof.Rows L2
/-- values, lists of one's own among them -/
def spN (Γ : Gam) (W : WX) (ms : List Sm) : TA := fun σ H Q => ∃ κ H0 s g, g.H = H ∧ Rel Γ κ H0 σ s g ∧ Fin Γ κ H0 σ W (sNew ms s) g fun bs _ g' => ∀ vs, AccOk Γ κ g.H g' vs bs → Q vs g'.H
section
variable {L : Law} {f : Frm} {pos : Pos}
theorem AccOk.step {Γ : Gam} {κ : Option Addr} {H0 Hb : Hp} {σ : L2.St} {s : St} {g g2 : Gh} {vs : List V} {bs : List B} (h : AccOk Γ κ Hb g vs bs) (r : Rel Γ κ H0 σ s g) (st : StepE κ g g2) : AccOk Γ κ Hb g2 vs bs := ⟨h.len, fun i v b h1 h2 => (h.at_ i v b h1 h2).step st r fun a l hn => l.step st hn, h.ne⟩
theorem AccOk.cons {Γ : Gam} {κ : Option Addr} {H0 Hb : Hp} {σ : L2.St} {s : St} {g g2 : Gh} {v : V} {b : B} {vs : List V} {bs : List B} (hb : RB Γ κ Hb g v b) (r : Rel Γ κ H0 σ s g) (st : StepE κ g g2) (hg : ∀ a, Hb a ≠ none → g.H a ≠ none) (h : AccOk Γ κ g.H g2 vs bs) : AccOk Γ κ Hb g2 (v :: vs) (b :: bs) := by
  have hb2 : RB Γ κ Hb g2 v b := hb.step st r fun a l hn => l.step st hn
  have was : ∀ {a : Addr} {xs : List D}, v = V.ref a → b = B.new xs → g.H a ≠ none := fun {a xs} e1 e2 => by
    subst e1 e2
    obtain ⟨a', ws, ea, qa, _⟩ := hb
    cases ea
    rw [qa]; exact fun z => nomatch z
  have new : ∀ {i : Nat} {a : Addr} {xs : List D}, vs[i]? = some (V.ref a) → bs[i]? = some (B.new xs) → g.H a = none := fun {i a xs} e1 e2 => by
    obtain ⟨a', ws, ea, qa, ta, n, l⟩ := h.at_ i _ _ e1 e2
    cases ea
    exact n
  refine ⟨by rw [List.length_cons, List.length_cons, h.len], fun i w c h1 h2 => ?_, fun i j a xs ys h1 h2 h3 h4 => ?_⟩
  · cases i with
    | zero => simp at h1 h2; subst h1 h2; exact hb2
    | succ i => exact (h.at_ i w c (by simpa using h1) (by simpa using h2)).old hg
  · cases i with
    | zero =>
      cases j with
      | zero => rfl
      | succ j =>
        simp at h1 h2
        exact absurd (new (i := j) (by simpa using h3) (by simpa using h4)) (was h1 h2)
    | succ i =>
      cases j with
      | zero =>
        simp at h3 h4
        exact absurd (new (i := i) (by simpa using h1) (by simpa using h2)) (was h3 h4)
      | succ j => rw [h.ne i j a xs ys (by simpa using h1) (by simpa using h2) (by simpa using h3) (by simpa using h4)]
theorem OkEs.news : ∀ {xs : List Expr} {ms : List Sm}, OkEs L f xs ms → ∀ W X, CxG L f W X → PA X xs (spN L.Γ W ms)
  | _, _, .nil, W, X, c => PA.imp pa_nil fun σ H Q ⟨κ, H0, s, g, e, r, q⟩ => by
    subst e
    exact q.ok r (StepE.refl _ _) [] AccOk.nil
  | _, _, .cons h t, W, X, c => PA.imp (pa_cons (h.b W X c) (t.news W X c) (h.pl.st _ _)) fun σ H Q ⟨κ, H0, s, g, e, r, q⟩ => by
    refine ⟨κ, H0, s, g, e, r, q.bind fun v s1 g1 r1 st1 q1 u hu => ?_⟩
    refine ⟨κ, H0, s1, g1, rfl, r1, (q1.later st1).bind fun vs s3 g3 r3 st3 q3 us hus => ?_⟩
    exact q3.ok r3 st3 (u :: us) (AccOk.cons hu r1 st3 st1.there hus)
theorem sNew_len : ∀ {ms : List Sm} {s s' : St} {bs : List B}, sNew ms s = .ok bs s' → bs.length = ms.length
  | [], _, _, _, h => by cases h; rfl
  | m :: ms, s, s', bs, h => by
    obtain ⟨b, s1, _, h⟩ := R.bind_ok h
    obtain ⟨bs', s2, h2, h⟩ := R.bind_ok h
    cases h
    rw [List.length_cons, List.length_cons, sNew_len h2]
theorem no2_at : ∀ {bs : List B} {x : List (List D)}, no2 bs = true → B.new2 x ∉ bs
  | [], _, _ => fun z => nomatch z
  | .val _ :: bs, x, h => fun z => (List.mem_cons.mp z).elim (fun q => nomatch q) (no2_at (bs := bs) h)
  | .new _ :: bs, x, h => fun z => (List.mem_cons.mp z).elim (fun q => nomatch q) (no2_at (bs := bs) h)
  | .new2 _ :: bs, x, h => nomatch h
  | .newd _ _ :: bs, x, h => nomatch h
theorem no2_atd : ∀ {bs : List B} {ks : List (List Int)} {x : List D}, no2 bs = true → B.newd ks x ∉ bs
  | [], _, _, _ => fun z => nomatch z
  | .val _ :: bs, ks, x, h => fun z => (List.mem_cons.mp z).elim (fun q => nomatch q) (no2_atd (bs := bs) h)
  | .new _ :: bs, ks, x, h => fun z => (List.mem_cons.mp z).elim (fun q => nomatch q) (no2_atd (bs := bs) h)
  | .new2 _ :: bs, ks, x, h => nomatch h
  | .newd _ _ :: bs, ks, x, h => nomatch h
theorem puts_nox : ∀ {is : List Nat} {bs : List B} {s s' : St} {c : Nat}, sPuts is bs s ≠ .exc c s'
  | [], [], _, _, _ => fun h => nomatch h
  | [], _ :: _, _, _, _ => fun h => nomatch h
  | _ :: _, [], _, _, _ => fun h => nomatch h
  | i :: is, b :: bs, s, s', c => by
    unfold sPuts
    split
    · exact puts_nox
    · exact fun h => nomatch h
theorem puts_len : ∀ {is : List Nat} {bs : List B} {s s' : St}, sPuts is bs s = .ok () s' → bs.length = is.length
  | [], [], _, _, _ => rfl
  | [], _ :: _, _, _, h => nomatch h
  | _ :: _, [], _, _, h => nomatch h
  | i :: is, b :: bs, s, s', h => by
    unfold sPuts at h
    split at h
    · rw [List.length_cons, List.length_cons, puts_len h]
    · cases h
/-- many slots -/
def setN (σ : L2.St) : List Nat → List V → L2.St
  | i :: is, v :: vs => setN (σ.set i (some v)) is vs
  | _, _ => σ
/-- the values go into the slots -/
theorem puts_ok {Γ : Gam} {κ : Option Addr} {H0 : Hp} : ∀ {is : List Nat} {vs : List V} {bs : List B} {σ : L2.St} {s s' : St} {g : Gh}, Rel Γ κ H0 σ s g → AccOk Γ κ H0 g vs bs → no2 bs = true → sPuts is bs s = .ok () s' → ∃ ow, Rel Γ κ H0 (setN σ is vs) s' ⟨g.F, g.H, ow⟩
  | [], vs, [], σ, s, s', g, r, h, n2, e => by
    cases e
    rw [List.eq_nil_of_length_eq_zero h.len]
    exact ⟨g.ow, r⟩
  | [], vs, _ :: _, σ, s, s', g, r, h, n2, e => by cases e
  | _ :: _, vs, [], σ, s, s', g, r, h, n2, e => by cases e
  | i :: is, [], b :: bs, σ, s, s', g, r, h, n2, e => by cases h.len
  | i :: is, v :: vs, b :: bs, σ, s, s', g, r, h, n2, e => by
    have e : (if i < s.env.length then sPuts is bs (setS s i b.t) else .bad) = .ok () s' := e
    by_cases hi : i < s.env.length
    · rw [if_pos hi] at e
      have h0 := h.at_ 0 v b rfl rfl
      have n2' : no2 bs = true := by
        cases b with
        | val _ => exact n2
        | new _ => exact n2
        | new2 _ => cases n2
        | newd _ _ => cases n2
      have tl : ∀ {ow : Nat → List Addr}, (∀ (a : Addr) (j : Nat) (xs : List D), vs[j]? = some (V.ref a) → bs[j]? = some (B.new xs) → ∀ k, a ∉ ow k) → AccOk Γ κ H0 ⟨g.F, g.H, ow⟩ vs bs := fun {ow} hl => by
        refine ⟨by have := h.len; simpa using this, fun j w c h1 h2 => ?_, fun i j a xs ys h1 h2 h3 h4 => ?_⟩
        · have q := h.at_ (j + 1) w c (by simpa using h1) (by simpa using h2)
          cases c with
          | val d => exact q
          | new ds =>
            obtain ⟨a, ws, ea, qa, ta, n, l⟩ := q
            exact ⟨a, ws, ea, qa, ta, n, l.1, hl a j ds (by rw [h1, ea]) h2, l.2.2⟩
          | new2 x => exact absurd (List.mem_of_getElem? h2) (no2_at n2')
          | newd ks x => exact absurd (List.mem_of_getElem? h2) (no2_atd n2')
        · have := h.ne (i + 1) (j + 1) a xs ys (by simpa using h1) (by simpa using h2) (by simpa using h3) (by simpa using h4)
          omega
      have loose : ∀ (a : Addr) (j : Nat) (xs : List D), vs[j]? = some (V.ref a) → bs[j]? = some (B.new xs) → ∀ k, a ∉ g.ow k := fun a j xs h1 h2 k => by
        obtain ⟨a', ws, ea, qa, ta, n, l⟩ := h.at_ (j + 1) _ _ (by simpa using h1) (by simpa using h2)
        cases ea
        exact l.2.1 k
      cases b with
      | val d =>
        have r1 := r.setT hi (t := .leaf d) (v := v) (as := []) ⟨h0, rfl⟩ .nil fun a ha => by cases ha
        have z := puts_ok r1 (tl (ow := fun j => if j = i then [] else g.ow j) fun a j xs h1 h2 k => by
          by_cases q : k = i
          · rw [if_pos q]; exact fun z => nomatch z
          · rw [if_neg q]; exact loose a j xs h1 h2 k) n2' e
        exact z
      | new ds =>
        obtain ⟨a0, ws, ea, qa, ta, n, l⟩ := h0
        have r1 := r.setT hi (t := .own ds) (v := v) (as := [a0]) ⟨a0, ws, ea, rfl, qa, ta⟩ (by simp) fun b hb => by
          rw [List.mem_singleton.mp hb]
          exact ⟨l.1, fun j _ => l.2.1 j, l.2.2, n⟩
        have z := puts_ok r1 (tl (ow := fun j => if j = i then [a0] else g.ow j) fun a j xs h1 h2 k => by
          by_cases q : k = i
          · rw [if_pos q]
            intro z
            rw [List.mem_singleton.mp z] at h1
            have := h.ne 0 (j + 1) a0 ds xs (by rw [ea]; rfl) rfl (by simpa using h1) (by simpa using h2)
            omega
          · rw [if_neg q]; exact loose a j xs h1 h2 k) n2' e
        exact z
      | new2 _ => cases n2
      | newd _ _ => cases n2
    · rw [if_neg hi] at e; cases e
theorem setN_len : ∀ {is : List Nat} {σ : L2.St} {vs : List V}, (setN σ is vs).length = σ.length
  | [], σ, vs => by cases vs <;> rfl
  | i :: is, σ, [] => rfl
  | i :: is, σ, v :: vs => by unfold setN; rw [setN_len, List.length_set]
/-- what a par statement does to its values -/
theorem par_imp {W : WX} {ms : List Sm} {is : List Nat} {D : Ends} {σ : L2.St} {H : Hp} (h : spS L.Γ W (fun s => (sNew ms s).out fun vs s => if no2 vs then (sPuts is vs s).out fun _ s => .nx s else .bad) D σ H) :
    spN L.Γ W ms σ H fun vs H1 => vs.length = is.length ∧ vs.length = ms.length ∧ D.nx (setN σ is vs) H1 := by
  obtain ⟨κ0, F0, H0, κ, s, g, e, r, bs, h⟩ := h
  subst e
  refine ⟨κ, H0, s, g, rfl, r, Fin.bindE (f := fun _ s => R.ok () s) (P := fun _ _ _ => True) ?_ fun b s1 g1 eq r1 st1 _ vs hvs => ?_⟩
  · have h1 := h.out r bs
    cases q : sNew ms s with
    | ok a s1 => exact fun _ _ _ => trivial
    | exc c s1 => rw [q] at h1; exact h1
    | bad => rw [q] at h1; exact h1
  · have h : FinO L.Γ κ0 F0 H0 W ((sNew ms s).out fun vs s => if no2 vs then (sPuts is vs s).out fun _ s => .nx s else .bad) D := h
    rw [eq] at h
    have h : FinO L.Γ κ0 F0 H0 W (if no2 b then (sPuts is b s1).out fun _ s => .nx s else .bad) D := h
    by_cases n2 : no2 b = true
    · rw [if_pos n2] at h
      cases q : sPuts is b s1 with
      | exc c s2 => exact absurd q puts_nox
      | bad => rw [q] at h; exact h.elim
      | ok u s2 =>
        rw [q] at h
        have acc : AccOk L.Γ κ H0 g1 vs b := ⟨hvs.len, fun i v c h1 h2 => (hvs.at_ i v c h1 h2).old r.grow, hvs.ne⟩
        obtain ⟨ow, r2⟩ := puts_ok r1 acc n2 q
        have b1 := bs.step r st1
        refine ⟨?_, by rw [hvs.len, sNew_len eq], h κ _ ⟨g1.F, g1.H, ow⟩ r2 ⟨b1.kle, b1.kf, b1.sub, b1.keep, b1.new⟩⟩
        rw [hvs.len, puts_len q]
    · rw [if_neg n2] at h; exact h.elim
/-- .. with the tuple of them laid -/
theorem par_imp2 {W : WX} {ms : List Sm} {is : List Nat} {D : Ends} {σ : L2.St} {H : Hp} (h : spS L.Γ W (fun s => (sNew ms s).out fun vs s => if no2 vs then (sPuts is vs s).out fun _ s => .nx s else .bad) D σ H) :
    spN L.Γ W ms σ H fun vs H1 => vs.length = is.length ∧ vs.length = ms.length ∧ ∀ p, H1 p = none → D.nx (setN σ is vs) (L2.upd H1 p (.tup vs)) := by
  obtain ⟨κ0, F0, H0, κ, s, g, e, r, bs, h⟩ := h
  subst e
  refine ⟨κ, H0, s, g, rfl, r, Fin.bindE (f := fun _ s => R.ok () s) (P := fun _ _ _ => True) ?_ fun b s1 g1 eq r1 st1 _ vs hvs => ?_⟩
  · have h1 := h.out r bs
    cases q : sNew ms s with
    | ok a s1 => exact fun _ _ _ => trivial
    | exc c s1 => rw [q] at h1; exact h1
    | bad => rw [q] at h1; exact h1
  · have h : FinO L.Γ κ0 F0 H0 W ((sNew ms s).out fun vs s => if no2 vs then (sPuts is vs s).out fun _ s => .nx s else .bad) D := h
    rw [eq] at h
    have h : FinO L.Γ κ0 F0 H0 W (if no2 b then (sPuts is b s1).out fun _ s => .nx s else .bad) D := h
    by_cases n2 : no2 b = true
    · rw [if_pos n2] at h
      cases q : sPuts is b s1 with
      | exc c s2 => exact absurd q puts_nox
      | bad => rw [q] at h; exact h.elim
      | ok u s2 =>
        rw [q] at h
        have acc : AccOk L.Γ κ H0 g1 vs b := ⟨hvs.len, fun i v c h1 h2 => (hvs.at_ i v c h1 h2).old r.grow, hvs.ne⟩
        have b1 := bs.step r st1
        refine ⟨by rw [hvs.len, puts_len q], by rw [hvs.len, sNew_len eq], fun p hp => ?_⟩
        obtain ⟨r3, st3, l3⟩ := r1.laid hp (.tup vs)
        obtain ⟨ow, r2⟩ := puts_ok r3 (acc.step r1 st3) n2 q
        have b3 := b1.step r1 st3
        exact h κ _ ⟨g1.F, L2.upd g1.H p (.tup vs), ow⟩ r2 ⟨b3.kle, b3.kf, b3.sub, b3.keep, b3.new⟩
    · rw [if_neg n2] at h; exact h.elim
/-- a, b = x, y; three; many -/
theorem s_par2 {i j : Nat} {x y : Str} {ea eb : Expr} {ma mb : Sm} {px py pt : Pos} {kt k2 : Nat} {pt2 : Pos} (hi : f.N[i]? = some x) (hj : f.N[j]? = some y) (hij : i ≠ j) (hx : f.sc.names.lookup x = some .local) (hy : f.sc.names.lookup y = some .local) (ha : OkE L f ea ma) (hb : OkE L f eb mb)
    (hw : ∀ env, env.scope = f.sc → swappedStores [.Tuple [.Name x px, .Name y py] kt pt] (.Tuple [ea, eb] k2 pt2) env = pure (some [x, y])) :
    OkS L f (.Assign [.Tuple [.Name x px, .Name y py] kt pt] (.Tuple [ea, eb] k2 pt2) pos) (fun s => (sNew [ma, mb] s).out fun vs s => if no2 vs then (sPuts [i, j] vs s).out fun _ s => .nx s else .bad) := fun W X c => by
  have es : OkEs L f [ea, eb] [ma, mb] := .cons ha (.cons hb .nil)
  refine PS.imp (ps_par c.calm (by rw [c.N]; exact c.nd) (by rw [c.N]; exact hi) (by rw [c.N]; exact hj) hij (by rw [c.sc]; exact hx) (by rw [c.sc]; exact hy) (es.news W X c) (hw _ c.sc) rfl) fun D σ H h => ?_
  obtain ⟨κ, H0, s, g, e, r, q⟩ := par_imp h
  refine ⟨κ, H0, s, g, e, r, q.imp fun b s1 g1 r1 st1 hh vs hvs => ?_⟩
  obtain ⟨l1, l2, q2⟩ := hh vs hvs
  match vs, l1, q2 with
  | [v, w], _, q2 => exact ⟨v, w, rfl, q2⟩
theorem s_par3 {i j l : Nat} {x y z : Str} {ea eb ec : Expr} {ma mb mc : Sm} {px py pz pt : Pos} {kt k2 : Nat} {pt2 : Pos} (hi : f.N[i]? = some x) (hj : f.N[j]? = some y) (hl : f.N[l]? = some z) (hij : i ≠ j) (hil : i ≠ l) (hjl : j ≠ l) (hx : f.sc.names.lookup x = some .local) (hy : f.sc.names.lookup y = some .local) (hz : f.sc.names.lookup z = some .local)
    (ha : OkE L f ea ma) (hb : OkE L f eb mb) (hc : OkE L f ec mc) (hw : ∀ env, env.scope = f.sc → swappedStores [.Tuple [.Name x px, .Name y py, .Name z pz] kt pt] (.Tuple [ea, eb, ec] k2 pt2) env = pure (some [x, y, z])) :
    OkS L f (.Assign [.Tuple [.Name x px, .Name y py, .Name z pz] kt pt] (.Tuple [ea, eb, ec] k2 pt2) pos) (fun s => (sNew [ma, mb, mc] s).out fun vs s => if no2 vs then (sPuts [i, j, l] vs s).out fun _ s => .nx s else .bad) := fun W X c => by
  have es : OkEs L f [ea, eb, ec] [ma, mb, mc] := .cons ha (.cons hb (.cons hc .nil))
  refine PS.imp (ps_par3 c.calm (by rw [c.N]; exact c.nd) (by rw [c.N]; exact hi) (by rw [c.N]; exact hj) (by rw [c.N]; exact hl) hij hil hjl (by rw [c.sc]; exact hx) (by rw [c.sc]; exact hy) (by rw [c.sc]; exact hz) (es.news W X c) (hw _ c.sc) rfl) fun D σ H h => ?_
  obtain ⟨κ, H0, s, g, e, r, q⟩ := par_imp h
  refine ⟨κ, H0, s, g, e, r, q.imp fun b s1 g1 r1 st1 hh vs hvs => ?_⟩
  obtain ⟨l1, l2, q2⟩ := hh vs hvs
  match vs, l1, q2 with
  | [v, w, u], _, q2 => exact ⟨v, w, u, rfl, q2⟩
/-- targets that are names, for any values -/
inductive Nms (f : Frm) : List Expr → List Nat → Prop where
  | nil : Nms f [] []
  | cons {x : Str} {p : Pos} {i : Nat} {xs : List Expr} {is : List Nat} (hN : f.N[i]? = some x) (hx : Loc f.sc x) (hf : f.cf x = true ∨ f.sc.names.lookup x = some .local) (t : Nms f xs is) : Nms f (.Name x p :: xs) (i :: is)
theorem Nms.pgs : ∀ {xs : List Expr} {is : List Nat}, Nms f xs is → ∀ W X, CxG L f W X → PGs X xs (fun vs σ H Q => vs.length = is.length ∧ Q (setN σ is vs) H)
  | _, _, .nil, W, X, c => ⟨fun pins s σ H vs us Q I r ⟨hl, q⟩ => pgs_nil.run pins s σ H vs us Q I r (by
    rw [List.eq_nil_of_length_eq_zero hl] at q ⊢
    exact ⟨rfl, q⟩)⟩
  | _, _, .cons (i := i) (is := is) hN hx hf t, W, X, c => ⟨fun pins s σ H vs us Q I r ⟨hl, q⟩ => by
    refine (pgs_cons (pg_name (i := i) (by rw [c.N]; exact c.nd) (by rw [c.N]; exact hN) (by rw [c.sc]; exact hx) (by rw [c.fn, c.sc]; exact hf)) (t.pgs W X c) rfl).run pins s σ H vs us Q I r ?_
    match vs, hl, q with
    | v :: vs', hl, q => exact ⟨v, vs', rfl, by simpa using hl, q⟩⟩
theorem Nms.each : ∀ {xs : List Expr} {is : List Nat}, Nms f xs is → ∀ env, (assignEach xs env).length = xs.length ∧ (assignEach xs env).findIdx? (·.1) = none
  | _, _, .nil, env => ⟨rfl, rfl⟩
  | _, _, .cons _ _ _ t, env => by
    obtain ⟨h1, h2⟩ := t.each env
    refine ⟨by show (_ :: assignEach _ env).length = _; rw [List.length_cons, h1, List.length_cons], ?_⟩
    show ((false, _) :: assignEach _ env).findIdx? (·.1) = none
    rw [List.findIdx?_cons]
    simp [h2]
theorem Nms.len : ∀ {xs : List Expr} {is : List Nat}, Nms f xs is → xs.length = is.length
  | _, _, .nil => rfl
  | _, _, .cons _ _ _ t => by rw [List.length_cons, List.length_cons, t.len]
theorem s_parN {ts es : List Expr} {is : List Nat} {ms : List Sm} {kt k2 : Nat} {pt pt2 : Pos} (ht : Nms f ts is) (he : OkEs L f es ms) (hl : ms.length ≤ 1000) (hw : ∀ env, env.scope = f.sc → swappedStores [.Tuple ts kt pt] (.Tuple es k2 pt2) env = pure none) :
    OkS L f (.Assign [.Tuple ts kt pt] (.Tuple es k2 pt2) pos) (fun s => (sNew ms s).out fun vs s => if no2 vs then (sPuts is vs s).out fun _ s => .nx s else .bad) := fun W X c => by
  obtain ⟨e1, e2⟩ := ht.each X.env
  refine PS.imp (ps_asg (pe_tup (he.news W X c)) (pg_tup c.calm (ht.pgs W X c) e1 e2) rfl (hw _ c.sc) rfl) fun D σ H h => ?_
  obtain ⟨κ, H0, s, g, e, r, q⟩ := par_imp2 h
  refine ⟨κ, H0, s, g, e, r, q.imp fun b s1 g1 r1 st1 hh vs hvs => ?_⟩
  obtain ⟨l1, l2, q2⟩ := hh vs hvs
  refine ⟨by rw [l2, sizeLine_eq]; omega, fun p hp => ⟨p, vs, rfl, .of upd_same, by rw [l1, ht.len], l1, q2 p hp⟩⟩
end
end Ev

set_option maxHeartbeats 1000000
/-! zip of any many lists and tuples: the library's level -/
namespace EZ
open PySem PySem.Spec PyProof.Rows
/-- an iterator over a list, a tuple -/
inductive SI where
  | L (it l : Addr) | T (it l : Addr)
def SI.it : SI → Addr
  | .L i _ => i
  | .T i _ => i
def SI.l : SI → Addr
  | .L _ l => l
  | .T _ l => l
def SI.At (h : Heap) (k : Nat) : SI → Prop
  | .L it l => h.IsListIter it l k
  | .T it l => h.IsTupleIter it l k
def SI.Has (h : Heap) (vs : Array Value) : SI → Prop
  | .L _ l => h.IsList l vs
  | .T _ l => h.IsTuple l vs
theorem SI.At.keep {h h' : Heap} {k : Nat} {x : SI} (a : x.At h k) (e : ∀ o, h.get? x.it = some o → h'.get? x.it = some o) : x.At h' k := by
  cases x with
  | L it l => obtain ⟨o, ho, r⟩ := a; exact ⟨o, e o ho, r⟩
  | T it l => obtain ⟨o, ho, r⟩ := a; exact ⟨o, e o ho, r⟩
theorem SI.At.there {h : Heap} {k : Nat} {x : SI} (a : x.At h k) : ∃ o, h.get? x.it = some o ∧ (∃ fs, o.data = .fields fs) := by
  cases x with
  | L it l => obtain ⟨o, ho, _, r⟩ := a; exact ⟨o, ho, _, r⟩
  | T it l => obtain ⟨o, ho, _, r⟩ := a; exact ⟨o, ho, _, r⟩
theorem SI.Has.keep {h h' : Heap} {vs : Array Value} {x : SI} (a : x.Has h vs) (e : ∀ o, h.get? x.l = some o → h'.get? x.l = some o) : x.Has h' vs := by
  cases x with
  | L it l => obtain ⟨o, ho, r⟩ := a; exact ⟨o, e o ho, r⟩
  | T it l => obtain ⟨o, ho, r⟩ := a; exact ⟨o, e o ho, r⟩
section
variable {prog : Program} {w : World} {A : Around} {E : Value → Shared → Prop} {s : Shared}
theorem si_item {x : SI} {k : Nat} {vs : Array Value} {v : Value} {Q : Value → Shared → Prop} (ha : x.At s.heap k) (hh : x.Has s.heap vs) (hx : vs[k]? = some v)
    (hQ : ∀ h', x.At h' (k + 1) → Heap.SameBut x.it s.heap h' → Q v { s with heap := h' }) : wpAny (model prog w) A (Builtin.SmallTypes.nextOf (.ref x.it)) Q E s := by
  cases x with
  | L it l => exact wpAny_nextOf_list_item ha hh hx hQ
  | T it l => exact RZ.nextOf_tuple_item ha hh hx hQ
theorem si_end {x : SI} {k : Nat} {vs : Array Value} {Q : Value → Shared → Prop} (h0 : A.handled = none) (ha : x.At s.heap k) (hh : x.Has s.heap vs) (hx : vs[k]? = none)
    (hE : ∀ h' e, Heap.ExtBut x.it s.heap h' → (∃ o, h'.get? e = some o ∧ o.cls = .type "StopIteration") → E (.ref e) { s with heap := h' }) : wpAny (model prog w) A (Builtin.SmallTypes.nextOf (.ref x.it)) Q E s := by
  cases x with
  | L it l => exact wpAny_nextOf_list_end h0 ha hh hx hE
  | T it l => exact RZ.nextOf_tuple_end h0 ha hh hx hE
theorem alive_any {a : Addr} {Q : Option Obj → Shared → Prop} (h : Q (s.heap.get? a) s) : wpAny (model prog w) A (loadIfAlive a) Q E s := fun _ _ _ => h
theorem forIn_any {α β : Type} {f : α → β → Sem (ForInStep β)} {Q : β → Shared → Prop} (Inv : List α → β → Shared → Prop) (hs : ∀ a rest b s, Inv (a :: rest) b s → wpAny (model prog w) A (f a b) (fun r s' => match r with
    | .yield b' => Inv rest b' s'
    | .done b' => Q b' s') E s) (hn : ∀ b s, Inv [] b s → Q b s) : ∀ (l : List α) (b : β) (s : Shared), Inv l b s → wpAny (model prog w) A (forIn l b f) Q E s
  | [], b, s, h => by rw [List.forIn_nil]; exact wpAny_pure (hn b s h)
  | a :: l, b, s, h => by
    rw [List.forIn_cons]
    refine wpAny_bind (wpAny_mono (hs a l b s h) (fun r s' q => ?_) fun _ _ z => z)
    cases r with
    | yield b' => exact forIn_any Inv hs hn l b' s' q
    | done b' => exact wpAny_pure q
end
def IsZ (h : Heap) (z TI TO : Addr) (f0 f1 : Value) : Prop := h.get? z = some { cls := .type "zip", dict := none, data := .fields #[f0, f1, .bool false, .ref TI, .ref TO], slots := #[] }
def IsTV (h : Heap) (T : Addr) (vs : List Value) : Prop := h.get? T = some { cls := .type "tuple", data := .seq vs.toArray }
structure Apart (z TI TO : Addr) (sis : List SI) : Prop where
  TIz : TI ≠ z
  TOz : TO ≠ z
  TITO : TI ≠ TO
  iz : ∀ x ∈ sis, x.it ≠ z
  iTO : ∀ x ∈ sis, x.it ≠ TO
  iTI : ∀ x ∈ sis, x.it ≠ TI
  lz : ∀ x ∈ sis, x.l ≠ z
  lTO : ∀ x ∈ sis, x.l ≠ TO
  li : ∀ x ∈ sis, ∀ y ∈ sis, x.l ≠ y.it
  nd : (sis.map SI.it).Nodup
/-- at turn k -/
structure ZAt (h : Heap) (z TI TO : Addr) (sis : List SI) (k : Nat) : Prop where
  z : ∃ f0 b, IsZ h z TI TO f0 (.bool b) ∧ (f0 = .none ∨ ∃ a, f0 = rawInt a)
  TI : IsTV h TI (sis.map fun x => .ref x.it)
  TO : ∃ old, IsTV h TO old ∧ old.length = sis.length
  its : ∀ x ∈ sis, x.At h k
  few : sis.length ≤ sizeLine
section
variable {prog : Program} {w : World} {A : Around} {E : Value → Shared → Prop} {s : Shared} {z TI TO : Addr} {sis : List SI} {k : Nat}
/-- what the turn leaves as it was -/
def Kept (z TO : Addr) (sis : List SI) (h h' : Heap) : Prop := ∀ c o, c ≠ z → c ≠ TO → (∀ x ∈ sis, c ≠ x.it) → h.get? c = some o → h'.get? c = some o
theorem set_ix {row old : List Value} {j : Nat} {v : Value} (hr : row[j]? = some v) (hj : j < old.length) : (row.take j ++ old.drop j).set j v = row.take (j + 1) ++ old.drop (j + 1) := by
  have hjr : j < row.length := (List.getElem?_eq_some_iff.mp hr).1
  have lt : (row.take j).length = j := by rw [List.length_take]; omega
  rw [List.set_append_right _ _ (by omega), lt, Nat.sub_self, List.drop_eq_getElem_cons hj]
  rw [List.set_cons_zero, List.take_add_one, hr]
  simp
theorem free_spec {f0 : Value} {b : Bool} {Q : Bool → Shared → Prop} (hz : IsZ s.heap z TI TO f0 (.bool b)) (hf0 : f0 = .none ∨ ∃ a, f0 = rawInt a) (hT : Q true s) (hF : ∀ h', IsZ h' z TI TO f0 (.bool true) → Heap.SameBut z s.heap h' → Q false { s with heap := h' }) :
    wpAny (model prog w) A (Builtin.SmallTypes.ownedTupleIsFree (.ref z)) Q E s := by
  unfold Builtin.SmallTypes.ownedTupleIsFree
  rcases hf0 with rfl | ⟨a, rfl⟩
  · exact wpAny_bind (wpAny_field hz rfl (x := .none) rfl (wpAny_pure hT))
  · refine wpAny_bind (wpAny_field hz rfl (x := rawInt a) rfl ?_)
    show wpAny _ _ (loadIfAlive a.toNat >>= _) _ _ s
    refine wpAny_bind (alive_any ?_)
    cases q : s.heap.get? a.toNat with
    | none => exact wpAny_pure hT
    | some o =>
      show wpAny _ _ (field (.ref z) 1 >>= _) _ _ s
      refine wpAny_bind (wpAny_field hz rfl (x := .bool b) rfl ?_)
      cases b with
      | true =>
        show wpAny _ _ (pure false) _ _ s
        exact wpAny_pure (hF s.heap hz ⟨rfl, fun _ _ => rfl⟩)
      | false =>
        show wpAny _ _ (setField (.ref z) 1 (.bool true) >>= _) _ _ s
        exact wpAny_bind (wpAny_setField_rec hz (by simp) fun h' hz' hs' => wpAny_pure (hF h' hz' hs'))
theorem zip_item {row : List Value} {vss : List (Array Value)} {Q : Value → Shared → Prop} (D : Apart z TI TO sis) (Z : ZAt s.heap z TI TO sis k) (hz0 : sis ≠ []) (hl : vss.length = sis.length) (hr : row.length = sis.length)
    (hv : ∀ (j : Nat) (x : SI) (vs : Array Value), sis[j]? = some x → vss[j]? = some vs → x.Has s.heap vs ∧ vs[k]? = row[j]?)
    (hQ : ∀ h', ZAt h' z TI TO sis (k + 1) → IsTV h' s.heap.objs.size row → (∃ f0 b, IsZ h' z TI TO f0 (.bool b) ∧ (f0 = .none ∨ ∃ a, f0 = rawInt a)) → Kept z TO sis s.heap h' → Q (.ref s.heap.objs.size) { s with heap := h' }) :
    wpAny (model prog w) A (Builtin.«zip.__next__» ⟨[.ref z], []⟩) (fun fin s' => ∃ v, fin = .done (.ret v) ∧ Q v s') E s := by
  obtain ⟨⟨f0, b1, hz, hf0⟩, hTI, ⟨old, hTO, hol⟩, hit, few⟩ := Z
  show wpAny _ _ (field (.ref z) 2 >>= _) _ _ _
  refine wpAny_bind (wpAny_field hz rfl (x := .bool false) rfl ?_)
  show wpAny _ _ (field (.ref z) 3 >>= _) _ _ _
  refine wpAny_bind (wpAny_field hz rfl (x := .ref TI) rfl ?_)
  refine wpAny_bind (wpAny_seqItems hTI rfl ?_)
  show wpAny _ _ (if ((sis.map fun x => Value.ref x.it).toArray.isEmpty) = true then _ else _) _ _ s
  rw [if_neg (by simp [hz0])]
  have has : ∀ {pre suf : List SI} {x : SI} {h' : Heap}, sis = pre ++ x :: suf → Kept z TO sis s.heap h' → ∃ vs v, x.Has h' vs ∧ vs[k]? = some v ∧ row[pre.length]? = some v := fun {pre suf x h'} e kp => by
    have hx : sis[pre.length]? = some x := by rw [e]; simp
    have hlt : pre.length < sis.length := by rw [e]; simp
    obtain ⟨h1, h2⟩ := hv pre.length x (vss[pre.length]'(by rw [hl]; exact hlt)) hx (by simp [hl, hlt])
    have hm : x ∈ sis := by rw [e]; simp
    refine ⟨_, row[pre.length]'(by rw [hr]; exact hlt), h1.keep fun o ho => kp x.l o (D.lz x hm) (D.lTO x hm) (fun y hy => D.li x hm y hy) ho, ?_, by simp [hr, hlt]⟩
    rw [h2]; simp [hr, hlt]
  refine wpAny_bind (free_spec hz hf0 ?free fun h₁ hz₁ hs₁ => ?held)
  case free =>
    show wpAny _ _ (rule _ >>= _) _ _ s
    refine wpAny_bind (wpAny_rule ?_)
    refine wpAny_bind (wpAny_field hz rfl (x := .ref TO) rfl ?_)
    refine wpAny_bind (wpAny_setField_rec hz (by simp) fun h₁ hz₁ hs₁ => ?_)
    replace hz₁ : IsZ h₁ z TI TO .ellipsis (.bool b1) := hz₁
    refine wpAny_bind ?_
    rw [List.toList_toArray]
    refine forIn_any (fun l b s' => ∃ pre suf h', sis = pre ++ suf ∧ l = (suf.map fun x => Value.ref x.it).zipIdx pre.length ∧ b = (none, ()) ∧ s' = { s with heap := h' } ∧ IsZ h' z TI TO .ellipsis (.bool b1) ∧ IsTV h' TO (row.take pre.length ++ old.drop pre.length) ∧ (∀ x ∈ pre, x.At h' (k + 1)) ∧ (∀ x ∈ suf, x.At h' k) ∧ Kept z TO sis s.heap h' ∧ h'.objs.size = s.heap.objs.size) ?step ?done _ _ _ ?start
    case start =>
      refine ⟨[], sis, h₁, rfl, rfl, rfl, rfl, hz₁, ?_, fun x hx => (by cases hx), fun x hx => (hit x hx).keep fun o ho => (hs₁.2 x.it (D.iz x hx)).trans ho, fun c o c1 _ _ ho => (hs₁.2 c c1).trans ho, hs₁.1⟩
      show IsTV h₁ TO ([] ++ old)
      exact (hs₁.2 TO D.TOz).trans hTO
    case step =>
      rintro a rest b s' ⟨pre, suf, h', e, el, rfl, rfl, hz', hTO', hpre, hsuf, kp, sz⟩
      cases suf with
      | nil => cases el
      | cons x suf =>
        have el' : (a :: rest) = (Value.ref x.it, pre.length) :: (suf.map fun x => Value.ref x.it).zipIdx (pre.length + 1) := el
        injection el' with ea er
        subst ea er
        have hm : x ∈ sis := by rw [e]; simp
        have hmp : ∀ y ∈ pre, y ∈ sis := fun y hy => by rw [e]; simp [hy]
        have hms : ∀ y ∈ suf, y ∈ sis := fun y hy => by rw [e]; simp [hy]
        obtain ⟨vs, v, hh, hvk, hrv⟩ := has e kp
        have prex : ∀ y ∈ pre, y.it ≠ x.it := fun y hy he => by
          have nd := D.nd
          rw [e, List.map_append, List.map_cons] at nd
          have := (List.nodup_append.mp nd).2.2 y.it (List.mem_map_of_mem hy) x.it List.mem_cons_self
          exact this he
        have sufx : ∀ y ∈ suf, y.it ≠ x.it := fun y hy he => by
          have nd := D.nd
          rw [e, List.map_append, List.map_cons] at nd
          have := (List.nodup_cons.mp (List.nodup_append.mp nd).2.1).1
          exact this (by rw [← he]; exact List.mem_map_of_mem hy)
        dsimp only
        refine wpAny_bind (wpAny_onRaise ?_)
        show wpAny _ _ (Builtin.SmallTypes.nextOf (.ref x.it) >>= _) _ _ _
        refine wpAny_bind (si_item (s := { s with heap := h' }) (hsuf x List.mem_cons_self) hh hvk fun h2 at2 sb2 => wpAny_pure ?_)
        have hTO2 : IsTV h2 TO (row.take pre.length ++ old.drop pre.length) := (sb2.2 TO (Ne.symm (D.iTO x hm))).trans hTO'
        refine wpAny_bind (wpAny_seqItems (s := { s with heap := h2 }) hTO2 rfl ?_)
        have hlen : (row.take pre.length ++ old.drop pre.length).length = sis.length := by
          have : pre.length ≤ sis.length := by rw [e]; simp
          rw [List.length_append, List.length_take, List.length_drop]; omega
        refine wpAny_bind (wpAny_updateSeq (s := { s with heap := h2 }) hTO2 rfl ?_ (by rw [List.size_toArray, hlen]; exact few) (by rw [Array.size_setIfInBounds, List.size_toArray, hlen]; omega))
        refine wpAny_bind (wpAny_letGo (wpAny_pure ?_))
        have sb3 : Heap.SameBut TO h2 (h2.update TO (Obj.mapSeq fun x_1 => x_1.setIfInBounds pre.length v)) := Heap.SameBut.update ..
        have hTO3 : IsTV (h2.update TO (Obj.mapSeq fun x_1 => x_1.setIfInBounds pre.length v)) TO (row.take (pre.length + 1) ++ old.drop (pre.length + 1)) := by
          show Heap.get? _ TO = _
          rw [Heap.get?_update_self _ hTO2 rfl]
          have e9 : (row.take pre.length ++ old.drop pre.length).toArray.setIfInBounds pre.length v = (row.take (pre.length + 1) ++ old.drop (pre.length + 1)).toArray := by rw [List.setIfInBounds_toArray, set_ix hrv (by rw [hol, e]; simp)]
          simp only [Obj.mapSeq, Array.size_setIfInBounds, beq_self_eq_true, if_true]
          rw [e9]
        refine ⟨pre ++ [x], suf, _, by rw [e]; simp, by rw [List.length_append]; rfl, rfl, rfl, ?_, by rw [List.length_append]; exact hTO3, fun y hy => ?_, fun y hy => ?_, fun c o c1 c2 c3 ho => ?_, by rw [sb3.1, sb2.1, sz]⟩
        · exact (sb3.2 z (Ne.symm D.TOz)).trans ((sb2.2 z (Ne.symm (D.iz x hm))).trans hz')
        · rcases List.mem_append.mp hy with q | q
          · exact (hpre y q).keep fun o ho => (sb3.2 _ (D.iTO y (hmp y q))).trans ((sb2.2 _ (prex y q)).trans ho)
          · rw [List.mem_singleton.mp q]
            exact at2.keep fun o ho => (sb3.2 _ (D.iTO x hm)).trans ho
        · exact (hsuf y (List.mem_cons_of_mem _ hy)).keep fun o ho => (sb3.2 _ (D.iTO y (hms y hy))).trans ((sb2.2 _ (sufx y hy)).trans ho)
        · exact (sb3.2 c c2).trans ((sb2.2 c (c3 x hm)).trans (kp c o c1 c2 c3 ho))
    case done =>
      rintro b s' ⟨pre, suf, h', e, el, rfl, rfl, hz', hTO', hpre, hsuf, kp, sz⟩
      have esuf : suf = [] := by
        cases suf with
        | nil => rfl
        | cons x suf => cases el
      subst esuf
      rw [List.append_nil] at e
      subst e
      have erow : row.take sis.length ++ old.drop sis.length = row := by rw [List.take_of_length_le (by omega), List.drop_eq_nil_of_le (by omega), List.append_nil]
      rw [erow] at hTO'
      dsimp only
      refine wpAny_bind (wpAny_seqItems (s := { s with heap := h' }) hTO' rfl ?_)
      refine wpAny_bind (wpAny_newTuple ?_ (by simp; omega))
      rw [List.toList_toArray]
      have hzlt : z < h'.objs.size := Heap.lt_size hz'
      show wpAny _ _ (Builtin.SmallTypes.ownedTupleHandOut (.ref z) (.ref h'.objs.size) >>= _) _ _ _
      refine wpAny_bind ?_
      unfold Builtin.SmallTypes.ownedTupleHandOut
      have hz6 : IsZ (h'.push { cls := .type "tuple", data := .seq row.toArray }) z TI TO .ellipsis (.bool b1) := Heap.get?_push_of_some _ hz'
      refine wpAny_bind (wpAny_setField_rec hz6 (by simp) fun h7 hz7 hs7 => ?_)
      replace hz7 : IsZ h7 z TI TO (rawInt h'.objs.size) (.bool b1) := hz7
      refine wpAny_setField_rec hz7 (by simp) fun h8 hz8 hs8 => ?_
      replace hz8 : IsZ h8 z TI TO (rawInt h'.objs.size) (.bool false) := hz8
      have up : ∀ c o, c ≠ z → h'.get? c = some o → h8.get? c = some o := fun c o c1 q => (hs8.2 c c1).trans ((hs7.2 c c1).trans (Heap.get?_push_of_some _ q))
      have hT : IsTV h8 h'.objs.size row := (hs8.2 _ (Nat.ne_of_gt hzlt)).trans ((hs7.2 _ (Nat.ne_of_gt hzlt)).trans (Heap.get?_push_size _ rfl))
      refine wpAny_pure ⟨_, rfl, ?_⟩
      show Q (.ref h'.objs.size) _
      rw [sz] at hT hz8 ⊢
      exact hQ h8 ⟨⟨_, _, hz8, .inr ⟨_, rfl⟩⟩, up _ _ D.TIz (kp TI _ D.TIz D.TITO (fun x hx => Ne.symm (D.iTI x hx)) hTI), ⟨row, up _ _ D.TOz hTO', hr⟩, fun x hx => (hpre x hx).keep fun o ho => up _ _ (D.iz x hx) ho, few⟩ hT ⟨_, _, hz8, .inr ⟨_, rfl⟩⟩ fun c o c1 c2 c3 ho => up c o c1 (kp c o c1 c2 c3 ho)
  case held =>
    dsimp only
    rw [List.forIn_toArray]
    refine wpAny_bind ?_
    refine forIn_any (fun l b s' => ∃ pre suf h', sis = pre ++ suf ∧ l = (suf.map fun x => Value.ref x.it) ∧ b = (none, (row.take pre.length).toArray) ∧ s' = { s with heap := h' } ∧ IsZ h' z TI TO f0 (.bool true) ∧ IsTV h' TO old ∧ (∀ x ∈ pre, x.At h' (k + 1)) ∧ (∀ x ∈ suf, x.At h' k) ∧ Kept z TO sis s.heap h' ∧ h'.objs.size = s.heap.objs.size) ?step ?done _ _ _ ?start
    case start =>
      exact ⟨[], sis, h₁, rfl, rfl, rfl, rfl, hz₁, (hs₁.2 TO D.TOz).trans hTO, fun x hx => (by cases hx), fun x hx => (hit x hx).keep fun o ho => (hs₁.2 x.it (D.iz x hx)).trans ho, fun c o c1 _ _ ho => (hs₁.2 c c1).trans ho, hs₁.1⟩
    case step =>
      rintro a rest b s' ⟨pre, suf, h', e, el, rfl, rfl, hz', hTO', hpre, hsuf, kp, sz⟩
      cases suf with
      | nil => cases el
      | cons x suf =>
        have el' : (a :: rest) = Value.ref x.it :: (suf.map fun x => Value.ref x.it) := el
        injection el' with ea er
        subst ea er
        have hm : x ∈ sis := by rw [e]; simp
        have hmp : ∀ y ∈ pre, y ∈ sis := fun y hy => by rw [e]; simp [hy]
        have hms : ∀ y ∈ suf, y ∈ sis := fun y hy => by rw [e]; simp [hy]
        obtain ⟨vs, v, hh, hvk, hrv⟩ := has e kp
        have prex : ∀ y ∈ pre, y.it ≠ x.it := fun y hy he => by
          have nd := D.nd
          rw [e, List.map_append, List.map_cons] at nd
          have := (List.nodup_append.mp nd).2.2 y.it (List.mem_map_of_mem hy) x.it List.mem_cons_self
          exact this he
        have sufx : ∀ y ∈ suf, y.it ≠ x.it := fun y hy he => by
          have nd := D.nd
          rw [e, List.map_append, List.map_cons] at nd
          have := (List.nodup_cons.mp (List.nodup_append.mp nd).2.1).1
          exact this (by rw [← he]; exact List.mem_map_of_mem hy)
        dsimp only
        refine wpAny_bind (wpAny_holding ?_)
        show wpAny _ _ (Builtin.SmallTypes.nextOf (.ref x.it) >>= _) _ _ _
        refine wpAny_bind (si_item (s := { s with heap := h' }) (hsuf x List.mem_cons_self) hh hvk fun h2 at2 sb2 => wpAny_pure ?_)
        refine wpAny_pure ?_
        refine ⟨pre ++ [x], suf, h2, by rw [e]; simp, rfl, ?_, rfl, (sb2.2 z (Ne.symm (D.iz x hm))).trans hz', (sb2.2 TO (Ne.symm (D.iTO x hm))).trans hTO', fun y hy => ?_, fun y hy => (hsuf y (List.mem_cons_of_mem _ hy)).keep fun o ho => (sb2.2 _ (sufx y hy)).trans ho, fun c o c1 c2 c3 ho => (sb2.2 c (c3 x hm)).trans (kp c o c1 c2 c3 ho), by rw [sb2.1, sz]⟩
        · rw [List.length_append, List.length_singleton, List.take_add_one, hrv]
          simp
        · rcases List.mem_append.mp hy with q | q
          · exact (hpre y q).keep fun o ho => (sb2.2 _ (prex y q)).trans ho
          · rw [List.mem_singleton.mp q]; exact at2
    case done =>
      rintro b s' ⟨pre, suf, h', e, el, rfl, rfl, hz', hTO', hpre, hsuf, kp, sz⟩
      have esuf : suf = [] := by
        cases suf with
        | nil => rfl
        | cons x suf => cases el
      subst esuf
      rw [List.append_nil] at e
      subst e
      dsimp only
      rw [List.take_of_length_le (by omega)]
      refine wpAny_bind (wpAny_newTuple ?_ (by omega))
      refine wpAny_pure ⟨_, rfl, ?_⟩
      have up : ∀ c o, h'.get? c = some o → (h'.push { cls := .type "tuple", data := .seq row.toArray }).get? c = some o := fun c o q => Heap.get?_push_of_some _ q
      have hT : IsTV (h'.push { cls := .type "tuple", data := .seq row.toArray }) h'.objs.size row := Heap.get?_push_size _ rfl
      show Q (.ref h'.objs.size) _
      rw [sz] at hT ⊢
      exact hQ _ ⟨⟨f0, true, up _ _ hz', hf0⟩, up _ _ (kp TI _ D.TIz D.TITO (fun x hx => Ne.symm (D.iTI x hx)) hTI), ⟨old, up _ _ hTO', hol⟩, fun x hx => (hpre x hx).keep fun o ho => up _ _ ho, few⟩ hT ⟨f0, true, up _ _ hz', hf0⟩ fun c o c1 c2 c3 ho => up c o (kp c o c1 c2 c3 ho)
theorem zip_end {vss : List (Array Value)} {Q : PySem.Fin → Shared → Prop} (h0 : A.handled = none) (D : Apart z TI TO sis) (Z : ZAt s.heap z TI TO sis k) (hl : vss.length = sis.length)
    (hv : ∀ (j : Nat) (x : SI) (vs : Array Value), sis[j]? = some x → vss[j]? = some vs → x.Has s.heap vs) (hend : sis = [] ∨ ∃ vs ∈ vss, vs[k]? = none)
    (hE : ∀ h' e, Kept z TO sis s.heap h' → (∃ o, h'.get? e = some o ∧ o.cls = .type "StopIteration") → E (.ref e) { s with heap := h' }) :
    wpAny (model prog w) A (Builtin.«zip.__next__» ⟨[.ref z], []⟩) Q E s := by
  obtain ⟨⟨f0, b1, hz, hf0⟩, hTI, ⟨old, hTO, hol⟩, hit, few⟩ := Z
  show wpAny _ _ (field (.ref z) 2 >>= _) _ _ _
  refine wpAny_bind (wpAny_field hz rfl (x := .bool false) rfl ?_)
  show wpAny _ _ (field (.ref z) 3 >>= _) _ _ _
  refine wpAny_bind (wpAny_field hz rfl (x := .ref TI) rfl ?_)
  refine wpAny_bind (wpAny_seqItems hTI rfl ?_)
  show wpAny _ _ (if ((sis.map fun x => Value.ref x.it).toArray.isEmpty) = true then _ else _) _ _ s
  by_cases hz0 : sis = []
  · subst hz0
    rw [if_pos (by simp)]
    refine wpAny_bind (wpAny_rule ?_)
    refine wpAny_bind ?_
    show wpAny _ _ (newExc (.type "StopIteration") [] >>= _) _ _ _
    refine wpAny_bind ?_
    simp only [newExc, newTuple]
    refine wpAny_bind (wpAny_newObj_type ?_ (by size_fits))
    refine wpAny_bind (m := firstArgMember _ _) (wpAny_of_eq (a := Value.none) (by first | rfl | (simp only [firstArgMember]; rfl)) ?_)
    refine wpAny_newObj_type ?_ (by size_fits)
    simp only [raiseNew]
    refine wpAny_bind (wpAny_handled ?_)
    first | rw [show A.in1.handled = none from h0] | rw [h0]
    refine wpAny_bind (wpAny_pure (wpAny_throw ?_))
    exact hE _ _ (fun c o _ _ _ ho => Heap.get?_push_of_some _ (Heap.get?_push_of_some _ ho)) ⟨_, Heap.get?_push_size _ rfl, rfl⟩
  rw [if_neg (by simp [hz0])]
  have hend : ∃ j vs, vss[j]? = some vs ∧ vs[k]? = none ∧ j < sis.length := by
    rcases hend with q | ⟨vs, hm, hn⟩
    · exact absurd q hz0
    · obtain ⟨j, hj⟩ := List.getElem?_of_mem hm
      exact ⟨j, vs, hj, hn, by rw [← hl]; exact (List.getElem?_eq_some_iff.mp hj).1⟩
  have has : ∀ {pre suf : List SI} {x : SI} {h' : Heap}, sis = pre ++ x :: suf → Kept z TO sis s.heap h' → ∃ vs, vss[pre.length]? = some vs ∧ x.Has h' vs := fun {pre suf x h'} e kp => by
    have hx : sis[pre.length]? = some x := by rw [e]; simp
    have hlt : pre.length < sis.length := by rw [e]; simp
    have hm : x ∈ sis := by rw [e]; simp
    have hvs : vss[pre.length]? = some (vss[pre.length]'(by rw [hl]; exact hlt)) := by simp [hl, hlt]
    exact ⟨_, hvs, (hv pre.length x _ hx hvs).keep fun o ho => kp x.l o (D.lz x hm) (D.lTO x hm) (fun y hy => D.li x hm y hy) ho⟩
  have snoc : ∀ {pre : List SI} {vs : Array Value} {v : Value}, (∀ j vs, j < pre.length → vss[j]? = some vs → vs[k]? ≠ none) → vss[pre.length]? = some vs → vs[k]? = some v → ∀ x : SI, ∀ j vs, j < (pre ++ [x]).length → vss[j]? = some vs → vs[k]? ≠ none := fun {pre vs v} h1 h2 h3 x j ws hj hw => by
    rw [List.length_append, List.length_singleton] at hj
    by_cases q : j < pre.length
    · exact h1 j ws q hw
    · have : j = pre.length := by omega
      subst this
      rw [h2] at hw; cases hw
      rw [h3]; exact fun z => nomatch z
  refine wpAny_bind (free_spec hz hf0 ?free fun h₁ hz₁ hs₁ => ?held)
  case free =>
    show wpAny _ _ (rule _ >>= _) _ _ s
    refine wpAny_bind (wpAny_rule ?_)
    refine wpAny_bind (wpAny_field hz rfl (x := .ref TO) rfl ?_)
    refine wpAny_bind (wpAny_setField_rec hz (by simp) fun h₁ hz₁ hs₁ => ?_)
    replace hz₁ : IsZ h₁ z TI TO .ellipsis (.bool b1) := hz₁
    refine wpAny_bind ?_
    rw [List.toList_toArray]
    refine forIn_any (fun l b s' => ∃ pre suf h' cur, sis = pre ++ suf ∧ l = (suf.map fun x => Value.ref x.it).zipIdx pre.length ∧ b = (none, ()) ∧ s' = { s with heap := h' } ∧ IsZ h' z TI TO .ellipsis (.bool b1) ∧ IsTV h' TO cur ∧ cur.length = sis.length ∧ (∀ j vs, j < pre.length → vss[j]? = some vs → vs[k]? ≠ none) ∧ (∀ x ∈ suf, x.At h' k) ∧ Kept z TO sis s.heap h') ?step ?done _ _ _ ?start
    case start =>
      exact ⟨[], sis, h₁, old, rfl, rfl, rfl, rfl, hz₁, (hs₁.2 TO D.TOz).trans hTO, hol, fun j vs hj => absurd hj (Nat.not_lt_zero _), fun x hx => (hit x hx).keep fun o ho => (hs₁.2 x.it (D.iz x hx)).trans ho, fun c o c1 _ _ ho => (hs₁.2 c c1).trans ho⟩
    case step =>
      rintro a rest b s' ⟨pre, suf, h', cur, e, el, rfl, rfl, hz', hTO', hlen, hpre, hsuf, kp⟩
      cases suf with
      | nil => cases el
      | cons x suf =>
        have el' : (a :: rest) = (Value.ref x.it, pre.length) :: (suf.map fun x => Value.ref x.it).zipIdx (pre.length + 1) := el
        injection el' with ea er
        subst ea er
        have hm : x ∈ sis := by rw [e]; simp
        have hms : ∀ y ∈ suf, y ∈ sis := fun y hy => by rw [e]; simp [hy]
        obtain ⟨vs, hvs, hh⟩ := has e kp
        have sufx : ∀ y ∈ suf, y.it ≠ x.it := fun y hy he => by
          have nd := D.nd
          rw [e, List.map_append, List.map_cons] at nd
          have := (List.nodup_cons.mp (List.nodup_append.mp nd).2.1).1
          exact this (by rw [← he]; exact List.mem_map_of_mem hy)
        dsimp only
        refine wpAny_bind (wpAny_onRaise ?_)
        show wpAny _ _ (Builtin.SmallTypes.nextOf (.ref x.it) >>= _) _ _ _
        cases hvk : vs[k]? with
        | none =>
          refine wpAny_bind (si_end (s := { s with heap := h' }) h0 (hsuf x List.mem_cons_self) hh hvk fun h2 e2 sb2 he => ?_)
          obtain ⟨oe, hoe, hce⟩ := he
          have hz2 : IsZ h2 z TI TO .ellipsis (.bool b1) := sb2 _ _ (Ne.symm (D.iz x hm)) hz'
          have hez : e2 ≠ z := fun q => by subst q; rw [show h2.get? e2 = _ from hz2] at hoe; cases hoe; simp at hce
          exact wpAny_setField_rec hz2 (by simp) fun h3 _ hs3 => hE h3 e2 (fun c o c1 c2 c3 ho => (hs3.2 c c1).trans (sb2 _ _ (c3 x hm) (kp c o c1 c2 c3 ho))) ⟨oe, (hs3.2 e2 hez).trans hoe, hce⟩
        | some v =>
          refine wpAny_bind (si_item (s := { s with heap := h' }) (hsuf x List.mem_cons_self) hh hvk fun h2 at2 sb2 => wpAny_pure ?_)
          have hTO2 : IsTV h2 TO cur := (sb2.2 TO (Ne.symm (D.iTO x hm))).trans hTO'
          refine wpAny_bind (wpAny_seqItems (s := { s with heap := h2 }) hTO2 rfl ?_)
          refine wpAny_bind (wpAny_updateSeq (s := { s with heap := h2 }) hTO2 rfl ?_ (by rw [List.size_toArray, hlen]; exact few) (by rw [Array.size_setIfInBounds, List.size_toArray, hlen]; omega))
          refine wpAny_bind (wpAny_letGo (wpAny_pure ?_))
          have sb3 : Heap.SameBut TO h2 (h2.update TO (Obj.mapSeq fun x_1 => x_1.setIfInBounds pre.length v)) := Heap.SameBut.update ..
          have hTO3 : IsTV (h2.update TO (Obj.mapSeq fun x_1 => x_1.setIfInBounds pre.length v)) TO (cur.set pre.length v) := by
            show Heap.get? _ TO = _
            rw [Heap.get?_update_self _ hTO2 rfl]
            have e9 : cur.toArray.setIfInBounds pre.length v = (cur.set pre.length v).toArray := by rw [List.setIfInBounds_toArray]
            simp only [Obj.mapSeq, Array.size_setIfInBounds, beq_self_eq_true, if_true]
            rw [e9]
          refine ⟨pre ++ [x], suf, _, cur.set pre.length v, by rw [e]; simp, by rw [List.length_append]; rfl, rfl, rfl, (sb3.2 z (Ne.symm D.TOz)).trans ((sb2.2 z (Ne.symm (D.iz x hm))).trans hz'), hTO3, by rw [List.length_set, hlen], snoc hpre hvs hvk x, fun y hy => ?_, fun c o c1 c2 c3 ho => ?_⟩
          · exact (hsuf y (List.mem_cons_of_mem _ hy)).keep fun o ho => (sb3.2 _ (D.iTO y (hms y hy))).trans ((sb2.2 _ (sufx y hy)).trans ho)
          · exact (sb3.2 c c2).trans ((sb2.2 c (c3 x hm)).trans (kp c o c1 c2 c3 ho))
    case done =>
      rintro b s' ⟨pre, suf, h', cur, e, el, rfl, rfl, hz', hTO', hlen, hpre, hsuf, kp⟩
      have esuf : suf = [] := by
        cases suf with
        | nil => rfl
        | cons x suf => cases el
      subst esuf
      rw [List.append_nil] at e
      subst e
      obtain ⟨j, vs, h1, h2, h3⟩ := hend
      exact absurd h2 (hpre j vs h3 h1)
  case held =>
    dsimp only
    rw [List.forIn_toArray]
    refine wpAny_bind ?_
    refine forIn_any (fun l b s' => ∃ pre suf h', sis = pre ++ suf ∧ l = (suf.map fun x => Value.ref x.it) ∧ b.1 = none ∧ s' = { s with heap := h' } ∧ (∀ j vs, j < pre.length → vss[j]? = some vs → vs[k]? ≠ none) ∧ (∀ x ∈ suf, x.At h' k) ∧ Kept z TO sis s.heap h') ?step ?done _ _ _ ?start
    case start =>
      exact ⟨[], sis, h₁, rfl, rfl, rfl, rfl, fun j vs hj => absurd hj (Nat.not_lt_zero _), fun x hx => (hit x hx).keep fun o ho => (hs₁.2 x.it (D.iz x hx)).trans ho, fun c o c1 _ _ ho => (hs₁.2 c c1).trans ho⟩
    case step =>
      rintro a rest b s' ⟨pre, suf, h', e, el, hb, rfl, hpre, hsuf, kp⟩
      cases suf with
      | nil => cases el
      | cons x suf =>
        have el' : (a :: rest) = Value.ref x.it :: (suf.map fun x => Value.ref x.it) := el
        injection el' with ea er
        subst ea er
        have hm : x ∈ sis := by rw [e]; simp
        obtain ⟨vs, hvs, hh⟩ := has e kp
        have sufx : ∀ y ∈ suf, y.it ≠ x.it := fun y hy he => by
          have nd := D.nd
          rw [e, List.map_append, List.map_cons] at nd
          have := (List.nodup_cons.mp (List.nodup_append.mp nd).2.1).1
          exact this (by rw [← he]; exact List.mem_map_of_mem hy)
        refine wpAny_bind (wpAny_holding ?_)
        show wpAny _ _ (Builtin.SmallTypes.nextOf (.ref x.it) >>= _) _ _ _
        cases hvk : vs[k]? with
        | none =>
          refine wpAny_bind (si_end (s := { s with heap := h' }) h0 (hsuf x List.mem_cons_self) hh hvk fun h2 e2 sb2 he => ?_)
          exact hE h2 e2 (fun c o c1 c2 c3 ho => sb2 _ _ (c3 x hm) (kp c o c1 c2 c3 ho)) he
        | some v =>
          refine wpAny_bind (si_item (s := { s with heap := h' }) (hsuf x List.mem_cons_self) hh hvk fun h2 at2 sb2 => wpAny_pure ?_)
          refine wpAny_pure ?_
          exact ⟨pre ++ [x], suf, h2, by rw [e]; simp, rfl, rfl, rfl, snoc hpre hvs hvk x, fun y hy => (hsuf y (List.mem_cons_of_mem _ hy)).keep fun o ho => (sb2.2 _ (sufx y hy)).trans ho, fun c o c1 c2 c3 ho => (sb2.2 c (c3 x hm)).trans (kp c o c1 c2 c3 ho)⟩
    case done =>
      rintro b s' ⟨pre, suf, h', e, el, hb, rfl, hpre, hsuf, kp⟩
      have esuf : suf = [] := by
        cases suf with
        | nil => rfl
        | cons x suf => cases el
      subst esuf
      rw [List.append_nil] at e
      subst e
      obtain ⟨j, vs, h1, h2, h3⟩ := hend
      exact absurd h2 (hpre j vs h3 h1)
theorem pyNext_item {row : List Value} {vss : List (Array Value)} {Q : Option Value → Shared → Prop} (D : Apart z TI TO sis) (Z : ZAt s.heap z TI TO sis k) (hz0 : sis ≠ []) (hl : vss.length = sis.length) (hr : row.length = sis.length)
    (hv : ∀ (j : Nat) (x : SI) (vs : Array Value), sis[j]? = some x → vss[j]? = some vs → x.Has s.heap vs ∧ vs[k]? = row[j]?)
    (hQ : ∀ h', ZAt h' z TI TO sis (k + 1) → IsTV h' s.heap.objs.size row → Kept z TO sis s.heap h' → Q (some (.ref s.heap.objs.size)) { s with heap := h' }) : wpAny (model prog w) A (pyNext (.ref z)) Q E s := by
  obtain ⟨f0, b1, hz, hf0⟩ := Z.z
  have hT : s.TypeIs (.ref z) "zip" := ⟨_, hz, rfl⟩
  unfold pyNext
  exact wpAny_bind (wpAny_attempt (wpAny_callSpecial?_slot (name := Str.ofString "__next__") hT F.slot_zip_next
    (wpAny_call_entry F.slot_zip_next hT F.entry_zip_next
      (zip_item D Z hz0 hl hr hv fun h' a1 a2 _ a4 => wpAny_pure (hQ h' a1 a2 a4)) (F.args_zip_next_1 _))))
theorem pyNext_end {vss : List (Array Value)} {Q : Option Value → Shared → Prop} (h0 : A.handled = none) (D : Apart z TI TO sis) (Z : ZAt s.heap z TI TO sis k) (hl : vss.length = sis.length)
    (hv : ∀ (j : Nat) (x : SI) (vs : Array Value), sis[j]? = some x → vss[j]? = some vs → x.Has s.heap vs) (hend : sis = [] ∨ ∃ vs ∈ vss, vs[k]? = none)
    (hQ : ∀ h', Kept z TO sis s.heap h' → Q none { s with heap := h' }) : wpAny (model prog w) A (pyNext (.ref z)) Q E s := by
  obtain ⟨f0, b1, hz, hf0⟩ := Z.z
  have hT : s.TypeIs (.ref z) "zip" := ⟨_, hz, rfl⟩
  unfold pyNext
  refine wpAny_bind (wpAny_attempt (wpAny_callSpecial?_slot (name := Str.ofString "__next__") hT F.slot_zip_next
    (wpAny_call_entry F.slot_zip_next hT F.entry_zip_next (zip_end h0 D Z hl hv hend fun h' e hk he => ?_) (F.args_zip_next_1 _))))
  obtain ⟨o, ho, hc⟩ := he
  refine wpAny_bind (wpAny_isInstance (T := "StopIteration") (b := true) ⟨o, ho, hc⟩ isSubtype_stop ?_)
  exact wpAny_pure (hQ _ hk)
end
end EZ

set_option maxHeartbeats 1000000
/-! zip of any many: made, walked -/
namespace EZ
open PySem PySem.Spec PyProof.Rows
theorem typeCall_zip (us : List Value) : checkTypeCall "zip" ⟨us, []⟩ = pure () := by kernel_rfl
theorem newCall_zip : ∀ us : List Value, checkBuiltinCall "zip.__new__" ⟨.type "zip" :: us, []⟩ = pure ()
  | [] => by kernel_rfl
  | a :: us => by kernel_rfl
theorem args_init (a : Value) (us : List Value) : argsOk "object.__init__" ⟨a :: us, []⟩ := by
  unfold argsOk; rw [signature?_of (id := "object.__init__") (n := ['_', '_', 't', 'i', 'n', 'i', '_', '_']) (o := ['t', 'c', 'e', 'j', 'b', 'o']) (by kernel_rfl) F.owner_object]; kernel_rfl
def mkSI (b : Bool) (it l : Addr) : SI := if b then .L it l else .T it l
theorem mkSI_it (b : Bool) (it l : Addr) : (mkSI b it l).it = it := by cases b <;> rfl
theorem mkSI_l (b : Bool) (it l : Addr) : (mkSI b it l).l = l := by cases b <;> rfl
def sisOf (n0 : Nat) : List (Bool × Addr) → List SI
  | [] => []
  | q :: r => mkSI q.1 n0 q.2 :: sisOf (n0 + 1) r
theorem sisOf_len : ∀ (l : List (Bool × Addr)) (n0 : Nat), (sisOf n0 l).length = l.length
  | [], _ => rfl
  | q :: r, n0 => by unfold sisOf; rw [List.length_cons, List.length_cons, sisOf_len r]
theorem sisOf_get : ∀ {l : List (Bool × Addr)} {n0 j : Nat} {x : SI}, (sisOf n0 l)[j]? = some x → ∃ q, l[j]? = some q ∧ x = mkSI q.1 (n0 + j) q.2
  | [], n0, j, x, h => by simp [sisOf] at h
  | q :: r, n0, 0, x, h => by simp [sisOf] at h; exact ⟨q, rfl, h.symm⟩
  | q :: r, n0, j + 1, x, h => by
    obtain ⟨q', h1, h2⟩ := sisOf_get (l := r) (n0 := n0 + 1) (j := j) (x := x) (by simpa [sisOf] using h)
    exact ⟨q', by simpa using h1, by rw [h2, show n0 + 1 + j = n0 + (j + 1) by omega]⟩
theorem sisOf_mem {l : List (Bool × Addr)} {n0 : Nat} {x : SI} (h : x ∈ sisOf n0 l) : ∃ j q, l[j]? = some q ∧ j < l.length ∧ x = mkSI q.1 (n0 + j) q.2 := by
  obtain ⟨j, hj⟩ := List.getElem?_of_mem h
  obtain ⟨q, h1, h2⟩ := sisOf_get hj
  exact ⟨j, q, h1, (List.getElem?_eq_some_iff.mp h1).1, h2⟩
theorem sisOf_nd : ∀ (l : List (Bool × Addr)) (n0 : Nat), ((sisOf n0 l).map SI.it).Nodup
  | [], _ => List.Pairwise.nil
  | q :: r, n0 => by
    unfold sisOf
    rw [List.map_cons]
    refine List.nodup_cons.mpr ⟨fun h => ?_, sisOf_nd r _⟩
    rw [mkSI_it] at h
    obtain ⟨x, hx, e⟩ := List.mem_map.mp h
    obtain ⟨j, q', _, _, rfl⟩ := sisOf_mem hx
    rw [mkSI_it] at e
    have e' : (n0 + 1 + j : Nat) = n0 := e
    omega
theorem sisOf_app : ∀ (a b : List (Bool × Addr)) (n0 : Nat), sisOf n0 (a ++ b) = sisOf n0 a ++ sisOf (n0 + a.length) b
  | [], b, n0 => rfl
  | q :: r, b, n0 => by
    show mkSI q.1 n0 q.2 :: sisOf (n0 + 1) (r ++ b) = mkSI q.1 n0 q.2 :: (sisOf (n0 + 1) r ++ sisOf (n0 + (q :: r).length) b)
    rw [sisOf_app r b, show n0 + 1 + r.length = n0 + (q :: r).length by rw [List.length_cons]; omega]
def SrcHas (h : Heap) (q : Bool × Addr) (vs : Array Value) : Prop := if q.1 then h.IsList q.2 vs else h.IsTuple q.2 vs
theorem SrcHas.keep {h h' : Heap} {q : Bool × Addr} {vs : Array Value} (a : SrcHas h q vs) (e : ∀ c o, h.get? c = some o → h'.get? c = some o) : SrcHas h' q vs := by
  obtain ⟨b, l⟩ := q
  cases b with
  | true => obtain ⟨o, ho, r⟩ := (show h.IsList l vs from a); exact (show h'.IsList l vs from ⟨o, e _ o ho, r⟩)
  | false => obtain ⟨o, ho, r⟩ := (show h.IsTuple l vs from a); exact (show h'.IsTuple l vs from ⟨o, e _ o ho, r⟩)
theorem SrcHas.has {h : Heap} {q : Bool × Addr} {vs : Array Value} {it : Addr} (a : SrcHas h q vs) : (mkSI q.1 it q.2).Has h vs := by
  obtain ⟨b, l⟩ := q
  cases b with
  | true => exact (show h.IsList l vs from a)
  | false => exact (show h.IsTuple l vs from a)
theorem has_src {h : Heap} {q : Bool × Addr} {vs : Array Value} (a : SrcHas h q vs) : ∃ o, h.get? q.2 = some o ∧ ∃ n, o.data = .seq vs n := by
  obtain ⟨b, l⟩ := q
  cases b with
  | true => obtain ⟨o, ho, _, _, r⟩ := (show h.IsList l vs from a); exact ⟨o, ho, _, r⟩
  | false => obtain ⟨o, ho, _, _, r⟩ := (show h.IsTuple l vs from a); exact ⟨o, ho, _, r⟩
section
variable {prog : Program} {w : World} {A : Around} {E : Value → Shared → Prop} {s : Shared}
/-- an iterator made -/
theorem iter_src {q : Bool × Addr} {vs : Array Value} {Q : Value → Shared → Prop} (hq : SrcHas s.heap q vs)
    (h : ∀ h', (mkSI q.1 s.heap.objs.size q.2).At h' 0 → h'.objs.size = s.heap.objs.size + 1 → (∀ c o, s.heap.get? c = some o → h'.get? c = some o) → Q (.ref s.heap.objs.size) { s with heap := h' }) : wpAny (model prog w) A (pyIter (.ref q.2)) Q E s := by
  obtain ⟨b, l⟩ := q
  cases b with
  | true => exact wpAny_pyIter_list (show s.heap.IsList l vs from hq) (h _ ⟨_, Heap.get?_push_size _ rfl, rfl, rfl⟩ (Heap.size_push ..) fun c o ho => Heap.get?_push_of_some _ ho)
  | false => exact wpAny_pyIter_tuple (show s.heap.IsTuple l vs from hq) (h _ ⟨_, Heap.get?_push_size _ rfl, rfl, rfl⟩ (Heap.size_push ..) fun c o ho => Heap.get?_push_of_some _ ho)
theorem iterAll_any {srcs : List (Bool × Addr)} {Q : List Value → Shared → Prop} (hs : ∀ q ∈ srcs, ∃ vs, SrcHas s.heap q vs)
    (h : ∀ h', (∀ x ∈ sisOf s.heap.objs.size srcs, x.At h' 0) → h'.objs.size = s.heap.objs.size + srcs.length → (∀ c o, s.heap.get? c = some o → h'.get? c = some o) → Q ((sisOf s.heap.objs.size srcs).map fun x => .ref x.it) { s with heap := h' }) :
    wpAny (model prog w) A (Builtin.SmallTypes.iterAll (srcs.map fun q => .ref q.2)) Q E s := by
  unfold Builtin.SmallTypes.iterAll
  refine wpAny_bind ?_
  refine forIn_any (fun l b s' => ∃ pre suf h', srcs = pre ++ suf ∧ l = (suf.map fun q => Value.ref q.2) ∧ b = ((sisOf s.heap.objs.size pre).map fun x => Value.ref x.it).toArray ∧ s' = { s with heap := h' } ∧ (∀ x ∈ sisOf s.heap.objs.size pre, x.At h' 0) ∧ h'.objs.size = s.heap.objs.size + pre.length ∧ ∀ c o, s.heap.get? c = some o → h'.get? c = some o) ?step ?done _ _ _ ⟨[], srcs, s.heap, rfl, rfl, rfl, rfl, fun x hx => (by cases hx), rfl, fun _ _ h => h⟩
  case step =>
    rintro a rest b s' ⟨pre, suf, h', e, el, rfl, rfl, hat, sz, kp⟩
    cases suf with
    | nil => cases el
    | cons q suf =>
      have el' : (a :: rest) = Value.ref q.2 :: (suf.map fun q => Value.ref q.2) := el
      injection el' with ea er
      subst ea er
      obtain ⟨vs, hvs⟩ := hs q (by rw [e]; simp)
      refine wpAny_bind (wpAny_holding (iter_src (s := { s with heap := h' }) (hvs.keep kp) fun h2 a2 s2 k2 => wpAny_pure ?_))
      have a2 : (mkSI q.1 h'.objs.size q.2).At h2 0 := a2
      refine ⟨pre ++ [q], suf, h2, by rw [e]; simp, rfl, ?_, rfl, fun x hx => ?_, by rw [s2, List.length_append]; show h'.objs.size + 1 = _; rw [sz]; rfl, fun c o ho => k2 c o (kp c o ho)⟩
      · rw [sisOf_app, List.map_append]
        show _ = (_ ++ [Value.ref (mkSI q.1 (s.heap.objs.size + pre.length) q.2).it]).toArray
        rw [mkSI_it, ← sz]
        simp
      · rw [sisOf_app] at hx
        rcases List.mem_append.mp hx with z | z
        · exact (hat x z).keep fun o ho => k2 _ o ho
        · have z : x = mkSI q.1 (s.heap.objs.size + pre.length) q.2 := by simpa [sisOf] using z
          rw [z, ← sz]; exact a2
  case done =>
    rintro b s' ⟨pre, suf, h', e, el, rfl, rfl, hat, sz, kp⟩
    have esuf : suf = [] := by
      cases suf with
      | nil => rfl
      | cons x suf => cases el
    subst esuf
    rw [List.append_nil] at e
    subst e
    refine wpAny_pure ?_
    rw [List.toList_toArray]
    exact h h' hat sz kp
end
theorem type_zip : isType (.type "zip") = pure true := by first | rfl | kernel_rfl | (unfold isType; rw [isSubtype_type]; kernel_rfl)
theorem newClass_zip (us : List Value) : Builtin.SmallTypes.newClass "zip" ⟨.type "zip" :: us, []⟩ = pure (.type "zip", us) := by
  unfold Builtin.SmallTypes.newClass
  simp only [type_zip, sub_zip, pure_bind]
  rfl
theorem meets_zipN (srcs : List (Bool × Addr)) : Meets (Builtin.«zip.__new__» ⟨.type "zip" :: srcs.map (fun q => .ref q.2), []⟩) (fun _ R s => (∀ q ∈ srcs, ∃ vs, SrcHas s.heap q vs) ∧ srcs.length ≤ sizeLine ∧
      ∀ h', ZAt h' (s.heap.objs.size + srcs.length + 2) (s.heap.objs.size + srcs.length) (s.heap.objs.size + srcs.length + 1) (sisOf s.heap.objs.size srcs) 0 → h'.objs.size = s.heap.objs.size + srcs.length + 3 → (∀ c o, s.heap.get? c = some o → h'.get? c = some o) →
        R (.ok (.ret (.ref (s.heap.objs.size + srcs.length + 2)))) { s with heap := h' }) :=
  .of_wp fun prog w A R s h => by
    obtain ⟨hs, few, hR⟩ := h
    unfold Builtin.«zip.__new__»
    rw [newClass_zip]
    refine wpAny_bind (wpAny_pure ?_)
    dsimp only
    rw [if_neg (by simp)]
    refine wpAny_bind (iterAll_any hs fun h1 at1 s1 k1 => ?_)
    refine wpAny_bind (wpAny_newTuple ?_ (by rw [List.length_map, sisOf_len]; exact few))
    refine wpAny_bind (wpAny_newTuple ?_ (by rw [List.length_map, List.length_map, sisOf_len]; exact few))
    show wpAny _ _ (newObj (.type "zip") (.fields #[.none, .bool false, .bool false, .ref h1.objs.size, .ref (h1.push { cls := .type "tuple", data := .seq ((sisOf s.heap.objs.size srcs).map fun x => Value.ref x.it).toArray }).objs.size]) >>= _) _ _ _
    refine wpAny_bind (wpAny_newObj_type ?_ (by size_fits))
    refine wpAny_pure ⟨_, rfl, ?_⟩
    have z1 : (h1.push { cls := .type "tuple", data := .seq ((sisOf s.heap.objs.size srcs).map fun x => Value.ref x.it).toArray }).objs.size = s.heap.objs.size + srcs.length + 1 := by rw [Heap.size_push, s1]
    have z2 : ((h1.push { cls := .type "tuple", data := .seq ((sisOf s.heap.objs.size srcs).map fun x => Value.ref x.it).toArray }).push { cls := .type "tuple", data := .seq (((sisOf s.heap.objs.size srcs).map fun x => Value.ref x.it).map fun _ => Value.none).toArray }).objs.size = s.heap.objs.size + srcs.length + 2 := by rw [Heap.size_push, z1]
    show R (.ok (.ret (.ref ((h1.push { cls := .type "tuple", data := .seq ((sisOf s.heap.objs.size srcs).map fun x => Value.ref x.it).toArray }).push { cls := .type "tuple", data := .seq (((sisOf s.heap.objs.size srcs).map fun x => Value.ref x.it).map fun _ => Value.none).toArray }).objs.size))) _
    rw [z2]
    refine hR _ ⟨⟨.none, false, ?_, .inl rfl⟩, ?_, ⟨((sisOf s.heap.objs.size srcs).map fun x => Value.ref x.it).map fun _ => Value.none, ?_, by rw [List.length_map, List.length_map]⟩, fun x hx => (at1 x hx).keep fun o ho => Heap.get?_push_of_some _ (Heap.get?_push_of_some _ (Heap.get?_push_of_some _ ho)), by rw [sisOf_len]; exact few⟩ ?_ fun c o ho => Heap.get?_push_of_some _ (Heap.get?_push_of_some _ (Heap.get?_push_of_some _ (k1 c o ho)))
    · have := Heap.get?_push_size ((h1.push { cls := .type "tuple", data := .seq ((sisOf s.heap.objs.size srcs).map fun x => Value.ref x.it).toArray }).push { cls := .type "tuple", data := .seq (((sisOf s.heap.objs.size srcs).map fun x => Value.ref x.it).map fun _ => Value.none).toArray }) (o := { cls := .type "zip", data := .fields #[.none, .bool false, .bool false, .ref h1.objs.size, .ref (h1.push { cls := .type "tuple", data := .seq ((sisOf s.heap.objs.size srcs).map fun x => Value.ref x.it).toArray }).objs.size] }) rfl
      rw [z2] at this
      show Heap.get? _ _ = _
      rw [this, z1, s1]
    · show Heap.get? _ _ = _
      have := Heap.get?_push_size h1 (o := { cls := .type "tuple", data := .seq ((sisOf s.heap.objs.size srcs).map fun x => Value.ref x.it).toArray }) rfl
      rw [s1] at this
      exact Heap.get?_push_of_some _ (Heap.get?_push_of_some _ this)
    · show Heap.get? _ _ = _
      have := Heap.get?_push_size (h1.push { cls := .type "tuple", data := .seq ((sisOf s.heap.objs.size srcs).map fun x => Value.ref x.it).toArray }) (o := { cls := .type "tuple", data := .seq (((sisOf s.heap.objs.size srcs).map fun x => Value.ref x.it).map fun _ => Value.none).toArray }) rfl
      rw [z1] at this
      exact Heap.get?_push_of_some _ this
    · rw [Heap.size_push, z2]
section
variable {prog : Program} {w : World} {A : Around} {E : Value → Shared → Prop} {s : Shared}
theorem call_zipN {srcs : List (Bool × Addr)} {Q : Value → Shared → Prop} (hs : ∀ q ∈ srcs, ∃ vs, SrcHas s.heap q vs) (few : srcs.length ≤ sizeLine)
    (h : ∀ h', ZAt h' (s.heap.objs.size + srcs.length + 2) (s.heap.objs.size + srcs.length) (s.heap.objs.size + srcs.length + 1) (sisOf s.heap.objs.size srcs) 0 → h'.objs.size = s.heap.objs.size + srcs.length + 3 → (∀ c o, s.heap.get? c = some o → h'.get? c = some o) →
        Q (.ref (s.heap.objs.size + srcs.length + 2)) { s with heap := h' }) : wpAny (model prog w) A (call (.type "zip") (srcs.map fun q => .ref q.2)) Q E s :=
  callType_new F.called_zip (by decide) (typeCall_zip _) (newCall_zip _) (fun obj => args_init obj _) F.entry_zip_new (meets_zipN srcs) ⟨hs, few, fun h' Z sz kp => by
    obtain ⟨f0, b, hz, _⟩ := Z.z
    show _ ∧ _
    exact ⟨⟨_, hz, rfl⟩, h h' Z sz kp⟩⟩
theorem pyIter_zip {z TI TO : Addr} {sis : List SI} {k : Nat} {Q : Value → Shared → Prop} (Z : ZAt s.heap z TI TO sis k) (h : Q (.ref z) s) : wpAny (model prog w) A (pyIter (.ref z)) Q E s := by
  obtain ⟨f0, b, hz, _⟩ := Z.z
  have hT : s.TypeIs (.ref z) "zip" := ⟨_, hz, rfl⟩
  refine wpAny_pyIter_slot hT F.slot_zip_iter (wpAny_call_entry F.slot_zip_iter hT F.entry_zip_iter ?_ (F.args_zip_iter_1 _))
  show wpAny _ _ (ret (.ref z)) _ _ s
  exact wpAny_pure ⟨_, rfl, "zip", _, hT, F.slot_zip_next.lookup, h⟩
/-- the step ahead of the store: field 0 may be set to none -/
theorem letOwned_zip {tg : Expr} {z TI TO T : Addr} {sis : List SI} {k : Nat} {Q : Unit → Shared → Prop} (Z : ZAt s.heap z TI TO sis k) (D : Apart z TI TO sis)
    (hQ : ∀ h', ZAt h' z TI TO sis k → (∀ c o, c ≠ z → s.heap.get? c = some o → h'.get? c = some o) → Q () { s with heap := h' }) : wpAny (model prog w) A (letOwnedTupleGo tg (.ref z) (.ref T)) Q E s := by
  have same : Q () s := hQ s.heap Z fun _ _ _ h => h
  obtain ⟨⟨f0, b, hz, hf0⟩, hTI, ⟨old, hTO, hol⟩, hit, few⟩ := Z
  have go : wpAny (model prog w) A (do
      let o ← load z
      match o.cls, o.data with
      | .type n, .fields vs =>
        if ["enumerate", "zip", "dict_itemiterator", "dict_reverseitemiterator", "odict_iterator", "itertools.zip_longest", "itertools.pairwise"].contains n && vs[0]? == some (rawInt T) then
          rule "for.unpacks-the-owned-tuple"
          updateField z 0 .none
      | _, _ => pure ()) Q E s := by
    refine wpAny_bind (wpAny_load hz ?_)
    show wpAny _ _ (if (["enumerate", "zip", "dict_itemiterator", "dict_reverseitemiterator", "odict_iterator", "itertools.zip_longest", "itertools.pairwise"].contains "zip" &&
        (#[f0, .bool b, .bool false, .ref TI, .ref TO] : Array Value)[0]? == some (rawInt T)) = true then _ else _) Q E s
    split
    · refine wpAny_bind (wpAny_rule ?_)
      show wpAny _ _ (setField (.ref z) 0 .none) Q E s
      refine wpAny_setField_rec hz (by simp) fun h' hz' hs' => hQ h' ⟨⟨.none, b, hz', .inl rfl⟩, (hs'.2 TI D.TIz).trans hTI, ⟨old, (hs'.2 TO D.TOz).trans hTO, hol⟩, fun x hx => (hit x hx).keep fun o ho => (hs'.2 _ (D.iz x hx)).trans ho, few⟩ fun c o c1 ho => (hs'.2 c c1).trans ho
    · exact wpAny_pure same
  unfold letOwnedTupleGo
  cases tg <;> first
    | exact wpAny_pure same
    | exact go
end
end EZ

set_option maxHeartbeats 1000000
/-! zip over what is tracked -/
namespace EZ
open PySem PySem.Spec PyProof.Rows L2
def SqQ (K : PySem.W.Frag) (H : Hp) (q : Bool × Addr) (xs : List V) : Prop := if q.1 then SqL K H q.2 xs else SqT K H q.2 xs
def Itn (K : PySem.W.Frag) (srcs : List (Bool × Addr)) : It :=
  ⟨fun i H => srcs ≠ [] ∧ ∀ q ∈ srcs, ∃ xs x, SqQ K H q xs ∧ xs[i]? = some x,
   fun i H v H' => ∃ T row, v = .ref T ∧ H T = none ∧ H' = upd H T (.tup row) ∧ row.length = srcs.length ∧ ∀ (j : Nat) (q : Bool × Addr) (xs : List V), srcs[j]? = some q → SqQ K H q xs → xs[i]? = row[j]?,
   fun i H => (∀ q ∈ srcs, ∃ xs, SqQ K H q xs) ∧ (srcs = [] ∨ ∃ q ∈ srcs, ∃ xs, SqQ K H q xs ∧ xs.length ≤ i)⟩
theorem each_of {α β : Type} {P : α → β → Prop} : ∀ {l : List α}, (∀ a ∈ l, ∃ b, P a b) → ∃ bs : List β, bs.length = l.length ∧ ∀ (j : Nat) (a : α) (b : β), l[j]? = some a → bs[j]? = some b → P a b
  | [], _ => ⟨[], rfl, fun j a b h => by simp at h⟩
  | a :: l, h => by
    obtain ⟨b, hb⟩ := h a List.mem_cons_self
    obtain ⟨bs, h1, h2⟩ := each_of (l := l) fun a ha => h a (List.mem_cons_of_mem _ ha)
    refine ⟨b :: bs, by simp [h1], fun j x y e1 e2 => ?_⟩
    cases j with
    | zero => simp at e1 e2; subst e1 e2; exact hb
    | succ j => exact h2 j x y (by simpa using e1) (by simpa using e2)
section
variable {X : Cx} {pins : List (Addr × Obj)} {σ : L2.St} {H : Hp} {s : Shared}
theorem SqQ.src (I : Inv X pins σ H s) {q : Bool × Addr} {xs : List V} (h : SqQ X.K H q xs) : ∃ vs, SrcHas s.heap q vs ∧ Vals xs vs.toList := by
  obtain ⟨b, l⟩ := q
  cases b with
  | true =>
    obtain ⟨its, rv, p, _⟩ := I.list (show SqL X.K H l xs from h)
    exact ⟨its.toArray, (show s.heap.IsList l its.toArray from p.isList), by simpa using rv⟩
  | false =>
    obtain ⟨its, rv, p, _⟩ := I.tuple (show SqT X.K H l xs from h)
    exact ⟨its.toArray, (show s.heap.IsTuple l its.toArray from p), by simpa using rv⟩
theorem SqQ.inj (I : Inv X pins σ H s) {q : Bool × Addr} {xs ys : List V} (h : SqQ X.K H q xs) (h' : SqQ X.K H q ys) : xs = ys := by
  obtain ⟨b, l⟩ := q
  cases b with
  | true => exact I.list_inj (show SqL X.K H l xs from h) (show SqL X.K H l ys from h')
  | false => exact I.tuple_inj (show SqT X.K H l xs from h) (show SqT X.K H l ys from h')
end
def fpZ (z TI TO : Addr) (sis : List SI) : List Addr := z :: TI :: TO :: sis.map SI.it
theorem turn_zipN {P : Program} {w : World} {K : PySem.W.Frag} {tg : Expr} {z TI TO : Addr} {n0 : Nat} {srcs : List (Bool × Addr)} (D : Apart z TI TO (sisOf n0 srcs)) :
    Turn P w K tg (Itn K srcs) (fpZ z TI TO (sisOf n0 srcs)) z (fun i h => ZAt h z TI TO (sisOf n0 srcs) i) where
  mem := by simp [fpZ]
  obj := fun i h Z b hb => by
    obtain ⟨⟨f0, b1, hz, _⟩, hTI, ⟨old, hTO, _⟩, hit, _⟩ := Z
    rcases List.mem_cons.mp hb with e | hb
    · rw [e]; exact ⟨_, hz, fun v q => nomatch q⟩
    rcases List.mem_cons.mp hb with e | hb
    · rw [e]; exact ⟨_, hTI, fun v q => nomatch q⟩
    rcases List.mem_cons.mp hb with e | hb
    · rw [e]; exact ⟨_, hTO, fun v q => nomatch q⟩
    obtain ⟨x, hx, e⟩ := List.mem_map.mp hb
    obtain ⟨o, ho, fs, hd⟩ := (hit x hx).there
    rw [← e]
    exact ⟨o, ho, fun v q => by rw [hd] at q; cases q⟩
  keep := fun i h h' Z k => by
    obtain ⟨⟨f0, b1, hz, hf⟩, hTI, ⟨old, hTO, ho⟩, hit, few⟩ := Z
    exact ⟨⟨f0, b1, k z (by simp [fpZ]) _ hz, hf⟩, k TI (by simp [fpZ]) _ hTI, ⟨old, k TO (by simp [fpZ]) _ hTO, ho⟩, fun x hx => (hit x hx).keep fun o q => k x.it (by
      show x.it ∈ z :: TI :: TO :: (sisOf n0 srcs).map SI.it
      exact List.mem_cons_of_mem _ (List.mem_cons_of_mem _ (List.mem_cons_of_mem _ (List.mem_map_of_mem hx)))) o q, few⟩
  item := by
    intro X hP hw hK hc i pins s σ H E I hf Z hg
    subst hP hw hK
    obtain ⟨hne, hg⟩ := hg
    -- the sources' items
    obtain ⟨vss, hl, hv⟩ := each_of (P := fun (q : Bool × Addr) (vs : Array Value) => SrcHas s.heap q vs ∧ ∃ xs x, SqQ X.K H q xs ∧ Vals xs vs.toList ∧ xs[i]? = some x) (l := srcs) fun q hq => by
      obtain ⟨xs, x, h1, h2⟩ := hg q hq
      obtain ⟨vs, h3, h4⟩ := h1.src I
      exact ⟨vs, h3, xs, x, h1, h4, h2⟩
    obtain ⟨pr, hpl, hp⟩ := each_of (P := fun (vs : Array Value) (p : V × Value) => vs[i]? = some p.2 ∧ RelV p.1 p.2 ∧ ∀ q xs, SqQ X.K H q xs → Vals xs vs.toList → xs[i]? = some p.1) (l := vss) fun vs hvs => by
      obtain ⟨j, hj⟩ := List.getElem?_of_mem hvs
      have hjl : j < srcs.length := by rw [← hl]; exact (List.getElem?_eq_some_iff.mp hj).1
      obtain ⟨h1, xs, x, h2, h3, h4⟩ := hv j srcs[j] vs (by simp [hjl]) hj
      obtain ⟨u, hu, ru⟩ := h3.get h4
      refine ⟨(x, u), by simpa using hu, ru, fun q ys _ h6 => ?_⟩
      rw [Vals.inj h6 h3]; exact h4
    have hlen : (pr.map Prod.snd).length = (sisOf n0 srcs).length := by rw [List.length_map, hpl, hl, sisOf_len]
    refine pyNext_item D Z (fun e => hne (List.eq_nil_of_length_eq_zero (by rw [← sisOf_len srcs n0, e]; rfl))) (by rw [hl, sisOf_len]) hlen (fun j x vs h1 h2 => ?_) fun h' Z' hT kp => ?_
    · obtain ⟨q, hq, rfl⟩ := sisOf_get h1
      obtain ⟨h3, _⟩ := hv j q vs hq h2
      refine ⟨h3.has, ?_⟩
      have hjl : j < pr.length := by rw [hpl]; exact (List.getElem?_eq_some_iff.mp h2).1
      obtain ⟨h4, _⟩ := hp j vs pr[j] h2 (by simp [hjl])
      rw [h4]; simp [hjl]
    · refine ⟨_, rfl, letOwned_zip Z' D fun h2 Z2 kp2 => ?_⟩
      have hz : z < s.heap.objs.size := by obtain ⟨f0, b, q, _⟩ := Z.z; exact Heap.lt_size q
      have ltfp : ∀ b ∈ fpZ z TI TO (sisOf n0 srcs), b < s.heap.objs.size := fun b hb => by
        obtain ⟨⟨f0, b1, hz, _⟩, hTI, ⟨old, hTO, _⟩, hit, _⟩ := Z
        rcases List.mem_cons.mp hb with e | hb
        · rw [e]; exact Heap.lt_size hz
        rcases List.mem_cons.mp hb with e | hb
        · rw [e]; exact Heap.lt_size hTI
        rcases List.mem_cons.mp hb with e | hb
        · rw [e]; exact Heap.lt_size hTO
        obtain ⟨x, hx, e⟩ := List.mem_map.mp hb
        obtain ⟨o, ho, _⟩ := (hit x hx).there
        rw [← e]; exact Heap.lt_size ho
      have hT2 : IsTV h2 s.heap.objs.size (pr.map Prod.snd) := kp2 _ _ (Nat.ne_of_gt hz) hT
      have vals : Vals (pr.map Prod.fst) (pr.map Prod.snd) := by
        have : ∀ p ∈ pr, RelV p.1 p.2 := fun p hm => by
          obtain ⟨j, hj⟩ := List.getElem?_of_mem hm
          have hjl : j < vss.length := by rw [← hpl]; exact (List.getElem?_eq_some_iff.mp hj).1
          exact (hp j vss[j] p (by simp [hjl]) hj).2.1
        clear hlen hp hpl hT hT2 kp kp2 Z' Z2
        induction pr with
        | nil => exact .nil
        | cons p pr ih => exact .cons (this p List.mem_cons_self) (ih fun q hq => this q (List.mem_cons_of_mem _ hq))
      have new : ObjOk X.prog X.w (upd H s.heap.objs.size (.tup (pr.map Prod.fst))) h2 s.heap.objs.size (.tup (pr.map Prod.fst)) :=
        ⟨by rw [List.length_map, hpl, hl]; have := Z.few; rw [sisOf_len] at this; exact this, pr.map Prod.snd, vals, ⟨_, hT2, rfl, _, rfl⟩⟩
      have I1 : Inv X pins σ (upd H s.heap.objs.size (.tup (pr.map Prod.fst))) { s with heap := h2 } :=
        I.turnedNew (t' := s.toks) (ch := fpZ z TI TO (sisOf n0 srcs)) (fun b ob hb q => kp2 b ob (fun e => hb (by simp [fpZ, e])) (kp b ob (fun e => hb (by simp [fpZ, e])) (fun e => hb (by simp [fpZ, e])) (fun x hx e => hb (by
          rw [e]
          show x.it ∈ z :: TI :: TO :: (sisOf n0 srcs).map SI.it
          exact List.mem_cons_of_mem _ (List.mem_cons_of_mem _ (List.mem_cons_of_mem _ (List.mem_map_of_mem hx))))) q)) hf (Nat.le_refl _) new
      refine ⟨.ref s.heap.objs.size, _, I1, rfl, ⟨_, pr.map Prod.fst, rfl, I.hok.fresh (Nat.le_refl _), rfl, by rw [List.length_map, hpl, hl], fun j q xs h1 h3 => ?_⟩, Z2, fun b hb => ?_⟩
      · have hjl : j < vss.length := by rw [hl]; exact (List.getElem?_eq_some_iff.mp h1).1
        obtain ⟨h4, ys, y, h5, h6, h7⟩ := hv j q vss[j] h1 (by simp [hjl])
        have hjp : j < pr.length := by rw [hpl]; exact hjl
        obtain ⟨_, _, h8⟩ := hp j vss[j] pr[j] (by simp [hjl]) (by simp [hjp])
        rw [SqQ.inj I h3 h5, h8 q ys h5 h6]
        simp [hjp]
      · rw [upd_ne (Nat.ne_of_lt (ltfp b hb))]
        exact (hf b hb).1
  done := by
    intro X hP hw hK hc i pins s σ H E I hf Z hg
    subst hP hw hK
    obtain ⟨hg, he⟩ := hg
    obtain ⟨vss, hl, hv⟩ := each_of (P := fun (q : Bool × Addr) (vs : Array Value) => SrcHas s.heap q vs ∧ ∃ xs, SqQ X.K H q xs ∧ Vals xs vs.toList) (l := srcs) fun q hq => by
      obtain ⟨xs, h1⟩ := hg q hq
      obtain ⟨vs, h3, h4⟩ := h1.src I
      exact ⟨vs, h3, xs, h1, h4⟩
    refine pyNext_end (I.ok.hd hc) D Z (vss := vss) (by rw [hl, sisOf_len]) (fun j x vs h1 h2 => ?_) ?_ fun h' kp => ⟨rfl, ?_⟩
    · obtain ⟨q, hq, rfl⟩ := sisOf_get h1
      exact (hv j q vs hq h2).1.has
    · rcases he with rfl | ⟨q, hq, xs, h1, h2⟩
      · exact .inl rfl
      · right
        obtain ⟨j, hj⟩ := List.getElem?_of_mem hq
        have hjl : j < vss.length := by rw [hl]; exact (List.getElem?_eq_some_iff.mp hj).1
        obtain ⟨_, ys, h3, h4⟩ := hv j q vss[j] hj (by simp [hjl])
        refine ⟨vss[j], List.getElem_mem hjl, ?_⟩
        have h5 : ys = xs := SqQ.inj I h3 h1
        have h6 : ys.length = vss[j].size := h4.length
        rw [h5] at h6
        exact Array.getElem?_eq_none (by omega)
    · exact I.turnedL (t' := s.toks) (ch := fpZ z TI TO (sisOf n0 srcs)) (fun b ob hb q => kp b ob (fun e => hb (by simp [fpZ, e])) (fun e => hb (by simp [fpZ, e])) (fun x hx e => hb (by
          rw [e]
          show x.it ∈ z :: TI :: TO :: (sisOf n0 srcs).map SI.it
          exact List.mem_cons_of_mem _ (List.mem_cons_of_mem _ (List.mem_cons_of_mem _ (List.mem_map_of_mem hx))))) q) hf
  self := fun A i s Q E Z h => pyIter_zip Z h
end EZ

set_option maxHeartbeats 1000000
/-! zip made, over what is tracked -/
namespace EZ
open PySem PySem.Spec PyProof.Rows L2
theorem vals_refs : ∀ {srcs : List (Bool × Addr)} {us : List Value}, Vals (srcs.map fun q => V.ref q.2) us → us = srcs.map fun q => Value.ref q.2
  | [], _, h => by cases h; rfl
  | q :: srcs, _, h => by
    cases h with
    | cons r t =>
      have e := vals_refs t
      rw [e]
      cases r
      rfl
theorem apartN (n0 : Nat) (srcs : List (Bool × Addr)) (hs : ∀ q ∈ srcs, q.2 < n0) : Apart (n0 + srcs.length + 2) (n0 + srcs.length) (n0 + srcs.length + 1) (sisOf n0 srcs) := by
  have key : ∀ x ∈ sisOf n0 srcs, (n0 ≤ x.it ∧ x.it < n0 + srcs.length) ∧ x.l < n0 := fun x hx => by
    obtain ⟨j, q, h1, h2, rfl⟩ := sisOf_mem hx
    rw [mkSI_it, mkSI_l]
    exact ⟨⟨Nat.le_add_right _ _, Nat.add_lt_add_left h2 _⟩, hs q (List.mem_of_getElem? h1)⟩
  have lt1 : n0 + srcs.length < n0 + srcs.length + 1 := Nat.lt_succ_self _
  have lt2 : n0 + srcs.length < n0 + srcs.length + 2 := Nat.lt_add_of_pos_right (by decide)
  have lt3 : n0 + srcs.length + 1 < n0 + srcs.length + 2 := Nat.lt_succ_self _
  have le1 : n0 ≤ n0 + srcs.length := Nat.le_add_right _ _
  exact {
    TIz := Nat.ne_of_lt lt2
    TOz := Nat.ne_of_lt lt3
    TITO := Nat.ne_of_lt lt1
    iz := fun x hx => Nat.ne_of_lt (Nat.lt_trans (key x hx).1.2 lt2)
    iTO := fun x hx => Nat.ne_of_lt (Nat.lt_trans (key x hx).1.2 lt1)
    iTI := fun x hx => Nat.ne_of_lt (key x hx).1.2
    lz := fun x hx => Nat.ne_of_lt (Nat.lt_of_lt_of_le (key x hx).2 (Nat.le_trans le1 (Nat.le_of_lt lt2)))
    lTO := fun x hx => Nat.ne_of_lt (Nat.lt_of_lt_of_le (key x hx).2 (Nat.le_trans le1 (Nat.le_of_lt lt1)))
    li := fun x hx y hy => Nat.ne_of_lt (Nat.lt_of_lt_of_le (key x hx).2 (key y hy).1.1)
    nd := sisOf_nd srcs n0 }
section
variable {X : Cx} {pins : List (Addr × Obj)} {σ : L2.St} {H : Hp} {s : Shared} {tg : Expr} {R : It → Hp → Prop}
theorem SqQ.lt (I : Inv X pins σ H s) {q : Bool × Addr} {xs : List V} (h : SqQ X.K H q xs) : q.2 < s.heap.objs.size := by
  obtain ⟨vs, h1, _⟩ := h.src I
  obtain ⟨o, ho, _⟩ := has_src h1
  exact Heap.lt_size ho
theorem zip_it {srcs : List (Bool × Addr)} (I : Inv X pins σ H s) (hs : ∀ q ∈ srcs, ∃ xs, SqQ X.K H q xs) (few : srcs.length ≤ sizeLine) (q : R (Itn X.K srcs) H) :
    wpAny (model X.prog X.w) X.A (call (.type "zip") (srcs.map fun q => .ref q.2)) (fun v s1 => wpAny (model X.prog X.w) X.A (pyIter v) (PIE X pins σ tg R) X.xe s1) X.xe s := by
  have D := apartN s.heap.objs.size srcs fun q hq => by
    obtain ⟨xs, h⟩ := hs q hq
    exact h.lt I
  refine call_zipN (fun q hq => ?_) few fun h' Z sz kp => pyIter_zip (s := { s with heap := h' }) Z ?_
  · obtain ⟨xs, h⟩ := hs q hq
    obtain ⟨vs, h1, _⟩ := h.src I
    exact ⟨vs, h1⟩
  refine ⟨_, fpZ _ _ _ (sisOf s.heap.objs.size srcs), _, Itn X.K srcs, H, rfl, I.kept (t' := s.toks) kp, turn_zipN D, Z, fun b hb => ?_, q⟩
  have hb' : s.heap.objs.size ≤ b := by
    rcases List.mem_cons.mp hb with e | hb
    · rw [e]; omega
    rcases List.mem_cons.mp hb with e | hb
    · rw [e]; omega
    rcases List.mem_cons.mp hb with e | hb
    · rw [e]; omega
    obtain ⟨x, hx, e⟩ := List.mem_map.mp hb
    obtain ⟨j, q, h1, h2, rfl⟩ := sisOf_mem hx
    rw [mkSI_it] at e
    rw [← e]
    exact Nat.le_add_right _ _
  exact I.fpOk hb' (I.hok.fresh hb')
def iZipN (K : PySem.W.Frag) (ta : TA) : TI := fun σ H R => ta σ H fun vs H1 => ∃ srcs : List (Bool × Addr), vs = srcs.map (fun q => V.ref q.2) ∧ srcs.length ≤ sizeLine ∧ (∀ q ∈ srcs, ∃ xs, SqQ K H1 q xs) ∧ R (Itn K srcs) H1
theorem pi_zipN {e : Expr} {es : List Expr} {ta : TA} {p pos : Pos} (hg : Gl X "zip") (hm : X.mg "zip" = none) (ha : PA X (e :: es) ta) (hs : starEach (e :: es) X.env = (false, eval e X.env) :: starEach es X.env) (hp : (backTo pos (starEach es X.env)).any (·.1) = false) :
    PI X tg (.Call (.Name "zip" p) (e :: es) [] pos) (iZipN X.K ta) := by
  refine ⟨fun pins s σ H R I h => ?_⟩
  refine Call_ (ld_blt I hg hm PyProof.Rows.boot_zip (PyProof.Rows.callWith_type1 (thn (ha.run pos pins s σ H _ I h) fun us s1 ⟨vs, H1, I1, r1, srcs, e1, few, q1, q⟩ => ?_) hs hp))
  subst e1
  rw [vals_refs r1]
  exact zip_it I1 q1 few q
def iZipS (K : PySem.W.Frag) (te : TE) : TI := fun σ H R => te σ H fun x H1 => ∃ (a : Addr) (srcs : List (Bool × Addr)), x = V.ref a ∧ (SqT K H1 a (srcs.map fun q => V.ref q.2) ∨ SqL K H1 a (srcs.map fun q => V.ref q.2)) ∧ (∀ q ∈ srcs, ∃ xs, SqQ K H1 q xs) ∧ R (Itn K srcs) H1
theorem pi_zipS {e : Expr} {te : TE} {p sp_ pos : Pos} (hg : Gl X "zip") (hm : X.mg "zip" = none) (he : PE X e te) (hs : starEach [.Starred e sp_] X.env = [(true, eval e X.env)] := by rfl) :
    PI X tg (.Call (.Name "zip" p) [.Starred e sp_] [] pos) (iZipS X.K te) := by
  refine ⟨fun pins s σ H R I h => ?_⟩
  refine Call_ (ld_blt I hg hm PyProof.Rows.boot_zip ?_)
  rw [hs]
  refine PySem.W.ks_call (P := fun _ => True) rfl (fun _ _ => ⟨.machine, .inr (.inl rfl), PySem.W.Looks.of_pure rfl⟩) (PySem.W.ks_lone (thn (he.run pins s σ H _ I h) fun v s1 ⟨x, H1, I1, r1, a, srcs, e1, q0, q1, q⟩ => ?_))
  subst e1
  obtain rfl : v = Value.ref a := r1
  have few : srcs.length ≤ sizeLine := by
    rcases q0 with h | h
    · obtain ⟨_, _, _, hz⟩ := I1.tuple h
      rw [List.length_map] at hz; exact hz
    · obtain ⟨_, _, _, hz⟩ := I1.list h
      rw [List.length_map] at hz; exact hz
  refine StX.star_any I1 q0 fun us s2 I2 rv => ⟨trivial, ?_⟩
  rw [vals_refs rv]
  exact zip_it I2 q1 few q
end
end EZ

set_option maxHeartbeats 1000000
/-! zip: the evaluator's rule -/
namespace Ev
open PySem PySem.Spec PyProof.Rows L2 EZ
theorem zipN_get : ∀ {dss : List (List D)} {i : Nat} {d : D}, (zipN dss)[i]? = some d → ∃ row, d = .tup row ∧ row.length = dss.length ∧ ∀ (j : Nat) (xs : List D), dss[j]? = some xs → xs[i]? = row[j]?
  | [], i, d, h => by simp [zipN] at h
  | [xs], i, d, h => by
    simp only [zipN, List.getElem?_map, Option.map_eq_some_iff] at h
    obtain ⟨x, hx, rfl⟩ := h
    refine ⟨[x], rfl, rfl, fun j ys hj => ?_⟩
    cases j with
    | zero => simp at hj; subst hj; simpa using hx
    | succ j => simp at hj
  | xs :: y :: r, i, d, h => by
    simp only [zipN, List.getElem?_zipWith] at h
    cases hx : xs[i]? with
    | none => rw [hx] at h; cases h
    | some x =>
      cases hy : (zipN (y :: r))[i]? with
      | none => rw [hx, hy] at h; cases h
      | some t =>
        obtain ⟨row, rfl, hl, hg⟩ := zipN_get hy
        rw [hx, hy] at h
        simp only [Option.some.injEq] at h
        subst h
        refine ⟨x :: row, rfl, by simp [hl], fun j zs hj => ?_⟩
        cases j with
        | zero => simp at hj; subst hj; simpa using hx
        | succ j => simpa using hg j zs (by simpa using hj)
theorem zipN_len : ∀ {dss : List (List D)}, dss ≠ [] → (∀ xs ∈ dss, (zipN dss).length ≤ xs.length) ∧ ∃ xs ∈ dss, xs.length ≤ (zipN dss).length
  | [], h => absurd rfl h
  | [xs], _ => by simp [zipN]
  | xs :: y :: r, _ => by
    obtain ⟨h1, z, hz, h2⟩ := zipN_len (dss := y :: r) (by simp)
    simp only [zipN, List.length_zipWith]
    refine ⟨fun ys hy => ?_, ?_⟩
    · rcases List.mem_cons.mp hy with e | hy
      · rw [e]; exact Nat.min_le_left _ _
      · exact Nat.le_trans (Nat.min_le_right _ _) (h1 ys hy)
    · by_cases hc : xs.length ≤ (zipN (y :: r)).length
      · exact ⟨xs, by simp, by rw [Nat.min_eq_left hc]; exact Nat.le_refl _⟩
      · exact ⟨z, List.mem_cons_of_mem _ hz, by rw [Nat.min_eq_right (by omega)]; exact h2⟩
section
variable {Γ : Gam} {κ : Option Addr} {H0 : Hp} {σ : L2.St} {s : St} {g : Gh} {fz : Bool}
theorem rpl_of {F : Hp} : ∀ {ds : List D} {vs : List V}, vs.length = ds.length → (∀ (j : Nat) (v : V) (d : D), vs[j]? = some v → ds[j]? = some d → Rp Γ κ F v d) → RpL Γ κ F vs ds
  | [], [], _, _ => .nil
  | [], v :: vs, h, _ => by simp at h
  | d :: ds, [], h, _ => by simp at h
  | d :: ds, v :: vs, h, k => .cons (k 0 v d rfl rfl) (rpl_of (by simpa using h) fun j v d a b => k (j + 1) v d (by simpa using a) (by simpa using b))
def Src (Γ : Gam) (κ : Option Addr) (fz : Bool) (g : Gh) (q : Bool × Addr) (ds : List D) : Prop := ∃ xs, (∀ g', Later κ fz g g' → SqQ Γ.K g'.H q xs) ∧ RpL Γ κ g.F xs ds
theorem Later.refl (r : Rel Γ κ H0 σ s g) : Later κ fz g g := ⟨Sub.refl _, r.sub, fun _ => StepE.refl _ _⟩
theorem Src.ofRp {v : V} {d : D} {ds : List D} (p : Rp Γ κ g.F v d) (e : items? d = some ds) : ∃ q : Bool × Addr, v = .ref q.2 ∧ Src Γ κ fz g q ds := by
  cases d with
  | tup ds' =>
    cases e
    unfold Rp at p
    obtain ⟨a, vs, ea, q, t⟩ := p
    exact ⟨(false, a), ea, vs, fun g' l => .inl (.inl (l.in_ a _ (l.sub a _ q))), t⟩
  | lst ds' =>
    cases e
    unfold Rp at p
    obtain ⟨a, vs, ea, q, t⟩ := p
    exact ⟨(true, a), ea, vs, fun g' l => .of (l.in_ a _ (l.sub a _ q)), t⟩
  | _ => cases e
theorem Src.ofPk {v : V} {d : D} {ds : List D} (p : Pk Γ κ g v d) (e : items? d = some ds) : ∃ q : Bool × Addr, v = .ref q.2 ∧ Src Γ κ false g q ds := by
  cases d with
  | lst ds' =>
    cases e
    obtain ⟨a, vs, ea, q, n, t⟩ := p
    exact ⟨(true, a), ea, vs, fun g' l => .of ((l.st rfl).keep a _ q n), t⟩
  | tup ds' => exact Src.ofRp (show Rp Γ κ g.F v (.tup ds') from p) e
  | _ => cases e
/-- the sources and their items -/
def Srcs (Γ : Gam) (κ : Option Addr) (fz : Bool) (g : Gh) (srcs : List (Bool × Addr)) (dss : List (List D)) : Prop := srcs.length = dss.length ∧ ∀ (j : Nat) (q : Bool × Addr) (ds : List D), srcs[j]? = some q → dss[j]? = some ds → Src Γ κ fz g q ds
theorem srcs_rp : ∀ {ds : List D} {vs : List V} {dss : List (List D)}, RpL Γ κ g.F vs ds → allItems? ds = some dss → ∃ srcs : List (Bool × Addr), vs = srcs.map (fun q => V.ref q.2) ∧ Srcs Γ κ fz g srcs dss
  | [], vs, dss, h, e => by
    unfold RpL at h
    subst h
    cases e
    exact ⟨[], rfl, rfl, fun j q ds h => by simp at h⟩
  | d :: ds, vs, dss, h, e => by
    obtain ⟨v, r, ev, h1, t⟩ := h.inv
    subst ev
    simp only [allItems?, Option.bind_eq_some_iff, Option.map_eq_some_iff] at e
    obtain ⟨xs, e1, yss, e2, rfl⟩ := e
    obtain ⟨q, rfl, h2⟩ := Src.ofRp (fz := fz) h1 e1
    obtain ⟨srcs, rfl, h3, h4⟩ := srcs_rp t e2
    refine ⟨q :: srcs, rfl, by simp [h3], fun j q' ds' a b => ?_⟩
    cases j with
    | zero => simp at a b; subst a b; exact h2
    | succ j => exact h4 j q' ds' (by simpa using a) (by simpa using b)
theorem srcs_pk : ∀ {ds : List D} {vs : List V} {dss : List (List D)}, PkL Γ κ g vs ds → allItems? ds = some dss → ∃ srcs : List (Bool × Addr), vs = srcs.map (fun q => V.ref q.2) ∧ Srcs Γ κ false g srcs dss
  | [], vs, dss, h, e => by
    unfold PkL at h
    subst h
    cases e
    exact ⟨[], rfl, rfl, fun j q ds h => by simp at h⟩
  | d :: ds, vs, dss, h, e => by
    unfold PkL at h
    obtain ⟨v, r, ev, h1, t⟩ := h
    subst ev
    simp only [allItems?, Option.bind_eq_some_iff, Option.map_eq_some_iff] at e
    obtain ⟨xs, e1, yss, e2, rfl⟩ := e
    obtain ⟨q, rfl, h2⟩ := Src.ofPk h1 e1
    obtain ⟨srcs, rfl, h3, h4⟩ := srcs_pk t e2
    refine ⟨q :: srcs, rfl, by simp [h3], fun j q' ds' a b => ?_⟩
    cases j with
    | zero => simp at a b; subst a b; exact h2
    | succ j => exact h4 j q' ds' (by simpa using a) (by simpa using b)
theorem Srcs.now {srcs : List (Bool × Addr)} {dss : List (List D)} (r : Rel Γ κ H0 σ s g) (h : Srcs Γ κ fz g srcs dss) : ∀ q ∈ srcs, ∃ xs, SqQ Γ.K g.H q xs := fun q hq => by
  obtain ⟨j, hj⟩ := List.getElem?_of_mem hq
  have hl : j < dss.length := by rw [← h.1]; exact (List.getElem?_eq_some_iff.mp hj).1
  obtain ⟨xs, a, _⟩ := h.2 j q dss[j] hj (by simp [hl])
  exact ⟨xs, a g (Later.refl r)⟩
theorem itr_zip {srcs : List (Bool × Addr)} {dss : List (List D)} (h : Srcs Γ κ fz g srcs dss) : Itr Γ κ fz g (Itn Γ.K srcs) (zipN dss) := by
  obtain ⟨hl, hs⟩ := h
  obtain ⟨xss, hxl, hx⟩ := each_of (P := fun (p : (Bool × Addr) × List D) (xs : List V) => (∀ g', Later κ fz g g' → SqQ Γ.K g'.H p.1 xs) ∧ RpL Γ κ g.F xs p.2) (l := srcs.zip dss) fun p hp => by
    obtain ⟨j, hj⟩ := List.getElem?_of_mem hp
    rw [List.getElem?_zip_eq_some] at hj
    exact hs j p.1 p.2 hj.1 hj.2
  have hxl : xss.length = srcs.length := by rw [hxl, List.length_zip, ← hl, Nat.min_self]
  have hx : ∀ (j : Nat) (q : Bool × Addr) (ds : List D) (xs : List V), srcs[j]? = some q → dss[j]? = some ds → xss[j]? = some xs → (∀ g', Later κ fz g g' → SqQ Γ.K g'.H q xs) ∧ RpL Γ κ g.F xs ds := fun j q ds xs a b c => hx j (q, ds) xs (by rw [List.getElem?_zip_eq_some]; exact ⟨a, b⟩) c
  have all : ∀ j, j < srcs.length → ∃ q ds xs, srcs[j]? = some q ∧ dss[j]? = some ds ∧ xss[j]? = some xs ∧ xs.length = ds.length := fun j hj => by
    have h1 : j < dss.length := by omega
    have h2 : j < xss.length := by omega
    exact ⟨srcs[j], dss[j], xss[j], by simp [hj], by simp [h1], by simp [h2], (hx j srcs[j] dss[j] xss[j] (by simp [hj]) (by simp [h1]) (by simp [h2])).2.length⟩
  refine ⟨fun H => ∀ (j : Nat) (q : Bool × Addr) (xs : List V), srcs[j]? = some q → xss[j]? = some xs → SqQ Γ.K H q xs,
    fun i H v H' => ∃ T row, v = .ref T ∧ H T = none ∧ H' = upd H T (.tup row) ∧ row.length = srcs.length ∧ ∀ (j : Nat) (xs : List V), xss[j]? = some xs → xs[i]? = row[j]?, ⟨fun i H hi G => ⟨fun e => ?_, fun q hq => ?_⟩, fun H G => ⟨fun q hq => ?_, ?_⟩, fun i H v H' hi G y => ?_⟩, fun g' l j q xs a b => ?_, fun i d H v H' hd y κ' H0 σ s g1 e1 kl r1 l => ?_⟩
  · subst e
    have : dss = [] := List.eq_nil_of_length_eq_zero hl.symm
    subst this
    simp [zipN] at hi
  · obtain ⟨j, hj⟩ := List.getElem?_of_mem hq
    obtain ⟨q', ds, xs, a, b, c, e⟩ := all j (List.getElem?_eq_some_iff.mp hj).1
    rw [hj] at a; cases a
    have hm := List.mem_of_getElem? b
    have hn := (zipN_len (List.ne_nil_of_mem hm)).1 ds hm
    have hi' : i < xs.length := by omega
    exact ⟨xs, xs[i], G j q xs hj c, by simp [hi']⟩
  · obtain ⟨j, hj⟩ := List.getElem?_of_mem hq
    obtain ⟨q', ds, xs, a, b, c, e⟩ := all j (List.getElem?_eq_some_iff.mp hj).1
    exact ⟨xs, G j q xs hj c⟩
  · by_cases e : dss = []
    · subst e
      exact .inl (List.eq_nil_of_length_eq_zero hl)
    · obtain ⟨_, ds, hm, hn⟩ := zipN_len e
      obtain ⟨j, hj⟩ := List.getElem?_of_mem hm
      obtain ⟨q, ds', xs, a, b, c, e⟩ := all j (by rw [hl]; exact (List.getElem?_eq_some_iff.mp hj).1)
      rw [hj] at b; cases b
      exact .inr ⟨q, List.mem_of_getElem? a, xs, G j q xs a c, by omega⟩
  · obtain ⟨T, row, e1, e2, e3, e4, k⟩ := y
    refine ⟨T, row, e1, e2, e3, e4, fun j xs c => ?_⟩
    have hj : j < srcs.length := by rw [← hxl]; exact (List.getElem?_eq_some_iff.mp c).1
    exact k j srcs[j] xs (by simp [hj]) (G j srcs[j] xs (by simp [hj]) c)
  · have hj : j < dss.length := by rw [← hl]; exact (List.getElem?_eq_some_iff.mp a).1
    exact (hx j q dss[j] xs a (by simp [hj]) b).1 g' l
  · subst e1
    obtain ⟨T, row, rfl, e2, rfl, e4, k⟩ := y
    obtain ⟨drow, rfl, e5, k2⟩ := zipN_get hd
    obtain ⟨r2, st2, sb⟩ := r1.laidF e2 (.tup row)
    refine ⟨_, rfl, r2, st2, ?_⟩
    unfold Rp
    refine ⟨T, row, rfl, upd_same, RpL.mono .rfl' sb _ _ (rpl_of (by omega) fun j v d a b => ?_)⟩
    have hj : j < srcs.length := by rw [← e4]; exact (List.getElem?_eq_some_iff.mp a).1
    obtain ⟨q, ds, xs, c1, c2, c3, _⟩ := all j hj
    have t := (hx j q ds xs c1 c2 c3).2
    rw [← k2 j ds c2] at b
    obtain ⟨u, hu, p⟩ := t.get b
    rw [k j xs c3, a] at hu
    cases hu
    exact Rp.mono kl l.sub _ _ p
end
section
variable {L : Law} {f : Frm} {x tg : Expr} {mx : Sm} {pos p p2 : Pos}
theorem Fin.lb {α β : Type} {Γ : Gam} {κ : Option Addr} {H0 : Hp} {σ : L2.St} {s : St} {g : Gh} {W : WX} {P : β → St → Gh → Prop} {o : Option α} {k : α → St → R β} (h : Fin Γ κ H0 σ W ((Ev.lift o s).bind k) g P) : ∃ b, o = some b ∧ Fin Γ κ H0 σ W (k b s) g P := by
  cases o with
  | none => exact h.elim
  | some b => exact ⟨b, rfl, h⟩
theorem sLook_len : ∀ {ms : List Sm} {s s' : St} {ds : List D}, sLook ms s = .ok ds s' → ds.length = ms.length
  | [], s, s', ds, h => by
    simp only [sLook] at h
    cases h
    rfl
  | m :: ms, s, s', ds, h => by
    simp only [sLook] at h
    cases q : m.p s with
    | ok v s1 =>
      rw [q] at h
      have h : (sLook ms s1).bind (fun vs s => .ok (v :: vs) s) = .ok ds s' := h
      cases q2 : sLook ms s1 with
      | ok vs s2 =>
        rw [q2] at h
        have h : (Ev.R.ok (v :: vs) s2 : R (List D)) = .ok ds s' := h
        cases h
        simp [sLook_len q2]
      | exc c s2 => rw [q2] at h; cases h
      | bad => rw [q2] at h; cases h
    | exc c s1 => rw [q] at h; cases h
    | bad => rw [q] at h; cases h
theorem all_len : ∀ {ds : List D} {dss : List (List D)}, allItems? ds = some dss → dss.length = ds.length
  | [], dss, h => by cases h; rfl
  | d :: ds, dss, h => by
    simp only [allItems?, Option.bind_eq_some_iff, Option.map_eq_some_iff] at h
    obtain ⟨xs, _, yss, e2, rfl⟩ := h
    simp [all_len e2]
theorem i_zip {xs : List Expr} {ms : List Sm} (h : OkEs L f (x :: xs) (mx :: ms)) (hl : (mx :: ms).length ≤ 1000) (hg : f.sc.names.lookup ("zip" : Str) = some .globalImplicit) (hm : L.mg "zip" = none) : OkI L f tg (.Call (.Name "zip" p) (x :: xs) [] pos) (sZip (mx :: ms)) := by
  refine ⟨fun _ _ => rfl, fun fz W X c => ?_⟩
  have h1 : OkE L f x mx := by cases h with | cons h _ => exact h
  have h2 : OkEs L f xs ms := by cases h with | cons _ t => exact t
  cases fz with
  | true =>
    refine PI.imp (pi_zipN (show X.env.scope.names.lookup _ = _ by rw [c.sc]; exact hg) (by rw [c.mg]; exact hm) (h.args W X c) (h1.pl.st _ _) (h2.noStar _ _)) fun σ H R ⟨κ, H0, s, g, e, r, q⟩ => ⟨κ, H0, s, g, e, r, ?_⟩
    have q : Fin L.Γ κ H0 σ W ((sArgs (mx :: ms) s).bind fun vs s => (lift (allItems? vs) s).bind fun xss s => .ok (zipN xss) s) g fun ds _ g' => ∀ J, Itr L.Γ κ true g' J ds → R J g'.H := q
    refine q.bindE fun ds s1 g1 eq r1 st1 q1 vs hv => ?_
    obtain ⟨dss, ed, q2⟩ := q1.lb
    obtain ⟨srcs, rfl, hs⟩ := srcs_rp (fz := true) hv ed
    rw [c.K]
    exact ⟨srcs, rfl, by rw [hs.1, all_len ed, sArgs_len eq, sizeLine_eq]; omega, hs.now r1, q2.ok r1 st1 _ (itr_zip hs)⟩
  | false =>
    refine PI.imp (pi_zipN (show X.env.scope.names.lookup _ = _ by rw [c.sc]; exact hg) (by rw [c.mg]; exact hm) (h.look W X c) (h1.pl.st _ _) (h2.noStar _ _)) fun σ H R ⟨κ, H0, s, g, e, r, q⟩ => ⟨κ, H0, s, g, e, r, ?_⟩
    have q : Fin L.Γ κ H0 σ W ((sLook (mx :: ms) s).bind fun vs s => (lift (allItems? vs) s).bind fun xss s => .ok (zipN xss) s) g fun ds _ g' => ∀ J, Itr L.Γ κ false g' J ds → R J g'.H := q
    refine q.bindE fun ds s1 g1 eq r1 st1 q1 vs hv => ?_
    obtain ⟨dss, ed, q2⟩ := q1.lb
    obtain ⟨srcs, rfl, hs⟩ := srcs_pk hv ed
    rw [c.K]
    exact ⟨srcs, rfl, by rw [hs.1, all_len ed, sLook_len eq, sizeLine_eq]; omega, hs.now r1, q2.ok r1 st1 _ (itr_zip hs)⟩
theorem R.bind_bind {α β γ : Type} {r : R α} {f : α → St → R β} {k : β → St → R γ} : (r.bind f).bind k = r.bind fun a s => (f a s).bind k := by cases r <;> rfl
theorem rp_items {Γ : Gam} {κ : Option Addr} {H0 : Hp} {σ : L2.St} {s : St} {g : Gh} (r : Rel Γ κ H0 σ s g) {v : V} {d : D} {ds : List D} (p : Rp Γ κ g.F v d) (e : items? d = some ds) : ∃ a vs, v = .ref a ∧ (SqL Γ.K g.H a vs ∨ SqT Γ.K g.H a vs) ∧ RpL Γ κ g.F vs ds := by
  cases d with
  | tup ds' =>
    cases e
    unfold Rp at p
    obtain ⟨a, vs, ea, q, t⟩ := p
    exact ⟨a, vs, ea, .inr (.inl (.inl (r.sub a _ q))), t⟩
  | lst ds' =>
    cases e
    unfold Rp at p
    obtain ⟨a, vs, ea, q, t⟩ := p
    exact ⟨a, vs, ea, .inl (.of (r.sub a _ q)), t⟩
  | _ => cases e
theorem i_zipS (h : OkE L f x mx) (hg : f.sc.names.lookup ("zip" : Str) = some .globalImplicit) (hm : L.mg "zip" = none) : OkI L f tg (.Call (.Name "zip" p) [.Starred x p2] [] pos) (sZipS mx) := by
  refine ⟨fun _ _ => rfl, fun fz W X c => ?_⟩
  cases fz with
  | true =>
    refine PI.imp (pi_zipS (show X.env.scope.names.lookup _ = _ by rw [c.sc]; exact hg) (by rw [c.mg]; exact hm) (h.b W X c)) fun σ H R ⟨κ, H0, s, g, e, r, q⟩ => ⟨κ, H0, s, g, e, r, ?_⟩
    have q : Fin L.Γ κ H0 σ W (((mx.b s).bind fun v s => .ok v.d s).bind fun v s => (lift ((items? v).bind allItems?) s).bind fun xss s => .ok (zipN xss) s) g fun ds _ g' => ∀ J, Itr L.Γ κ true g' J ds → R J g'.H := q
    rw [Ev.R.bind_bind] at q
    refine q.bind fun v s1 g1 r1 st1 q1 u hu => ?_
    obtain ⟨g2, e2, r2, st2, p2⟩ := RB.frz' r1 st1 hu
    obtain ⟨dss, ed, q2⟩ := Fin.lb (o := (items? v.d).bind allItems?) q1
    rw [Option.bind_eq_some_iff] at ed
    obtain ⟨ds, e1, e3⟩ := ed
    have hu' : Pk L.Γ κ g2 u v.d ∨ True := .inr trivial
    obtain ⟨a, vs, rfl, hq, t⟩ := rp_items r2 p2 e1
    obtain ⟨srcs, rfl, hs⟩ := srcs_rp (fz := true) t e3
    rw [c.K, ← e2]
    exact ⟨a, srcs, rfl, hq.symm, hs.now r2, q2.ok r2 st2 _ (itr_zip hs)⟩
  | false =>
    refine PI.imp (pi_zipS (show X.env.scope.names.lookup _ = _ by rw [c.sc]; exact hg) (by rw [c.mg]; exact hm) (h.p W X c)) fun σ H R ⟨κ, H0, s, g, e, r, q⟩ => ⟨κ, H0, s, g, e, r, ?_⟩
    have q : Fin L.Γ κ H0 σ W ((mx.p s).bind fun v s => (lift ((items? v).bind allItems?) s).bind fun xss s => .ok (zipN xss) s) g fun ds _ g' => ∀ J, Itr L.Γ κ false g' J ds → R J g'.H := q
    refine q.bind fun v s1 g1 r1 st1 q1 u hu => ?_
    obtain ⟨dss, ed, q2⟩ := q1.lb
    rw [Option.bind_eq_some_iff] at ed
    obtain ⟨ds, e1, e2⟩ := ed
    obtain ⟨a, vs, rfl, hq, t⟩ := hu.items r1 e1
    obtain ⟨srcs, rfl, hs⟩ := srcs_rp (fz := false) t e2
    rw [c.K]
    exact ⟨a, srcs, rfl, hq.symm, hs.now r1, q2.ok r1 st1 _ (itr_zip hs)⟩
end
end Ev

/-! enumerate of a list -/
namespace Ev
open PySem PySem.Spec PyProof.Rows L2 EZ
theorem enumD_get : ∀ (ds : List D) (n i : Nat), (enumD n ds)[i]? = (ds[i]?).map fun d => .tup [.int ((n + i : Nat) : Int), d]
  | [], n, i => by simp [enumD]
  | d :: ds, n, 0 => by simp [enumD]
  | d :: ds, n, i + 1 => by
    have := enumD_get ds (n + 1) i
    simp only [enumD, List.getElem?_cons_succ]
    rw [this, show n + 1 + i = n + (i + 1) by omega]
theorem enumD_len : ∀ (ds : List D) (n : Nat), (enumD n ds).length = ds.length
  | [], _ => rfl
  | _ :: ds, n => by simp [enumD, enumD_len ds]
section
variable {Γ : Gam} {κ : Option Addr} {H0 : Hp} {σ : L2.St} {s : St} {g : Gh} {fz : Bool}
theorem itr_enum {a : Addr} {xs : List V} {ds : List D} (h1 : ∀ g', Later κ fz g g' → SqL Γ.K g'.H a xs) (h2 : RpL Γ κ g.F xs ds) : Itr Γ κ fz g (Ite Γ.K a) (enumD 0 ds) := by
  refine ⟨fun H => SqL Γ.K H a xs, YPair (fun i => some (.int (i : Nat))) (fun i => xs[i]?), by rw [enumD_len, ← h2.length]; exact walk_enum (xs := xs), fun g' l => h1 g' l, fun i d H v H' hd y κ' H0 σ s g1 e1 kl r1 l => ?_⟩
  subst e1
  obtain ⟨T, x, u, rfl, e2, rfl, e3, e4⟩ := y
  cases e3
  rw [enumD_get] at hd
  cases hq : ds[i]? with
  | none => rw [hq] at hd; cases hd
  | some d0 =>
    rw [hq] at hd
    cases hd
    obtain ⟨w, hw, p⟩ := h2.get hq
    have e4 : xs[i]? = some u := e4
    rw [hw] at e4; cases e4
    obtain ⟨r2, st2, sb⟩ := r1.laidF e2 (.tup [.int (i : Nat), u])
    refine ⟨_, rfl, r2, st2, ?_⟩
    unfold Rp
    refine ⟨T, [.int (i : Nat), u], rfl, upd_same, ?_⟩
    refine .cons ?_ (.cons (Rp.mono .rfl' sb _ _ (Rp.mono kl l.sub _ _ p)) .nil)
    unfold Rp
    rw [Nat.zero_add]
end
section
variable {L : Law} {f : Frm} {x : Expr} {mx : Sm} {pos p tpos : Pos} {elts : List Expr} {kk : Nat}
theorem i_enum (h : OkE L f x mx) (hg : f.sc.names.lookup ("enumerate" : Str) = some .globalImplicit) (hm : L.mg "enumerate" = none) : OkI L f (.Tuple elts kk tpos) (.Call (.Name "enumerate" p) [x] [] pos) (sEnum mx) := by
  refine ⟨fun _ _ => rfl, fun fz W X c => ?_⟩
  cases fz with
  | true =>
    refine PI.imp (pi_enum (show X.env.scope.names.lookup _ = _ by rw [c.sc]; exact hg) (by rw [c.mg]; exact hm) (pa_cons (h.b W X c) pa_nil (h.pl.st _ _)) (h.pl.st _ _)) fun σ H R ⟨κ, H0, s, g, e, r, q⟩ => ⟨κ, H0, s, g, e, r, ?_⟩
    have q : Fin L.Γ κ H0 σ W (((mx.b s).bind fun v s => .ok v.d s).bind fun v s => (lift (lstItems? v) s).bind fun xs s => .ok (enumD 0 xs) s) g fun ds _ g' => ∀ J, Itr L.Γ κ true g' J ds → R J g'.H := q
    rw [Ev.R.bind_bind] at q
    refine q.bind fun v s1 g1 r1 st1 q1 u hu => ?_
    obtain ⟨g2, e2, r2, st2, p2⟩ := RB.frz' r1 st1 hu
    obtain ⟨ds, ed, q2⟩ := Fin.lb (o := lstItems? v.d) q1
    generalize v.d = d at p2 ed
    cases d with
    | lst ds' =>
      cases ed
      unfold Rp at p2
      obtain ⟨a, vs, ea, qa, t⟩ := p2
      subst ea
      rw [c.K, ← e2]
      exact ⟨a, vs, rfl, .of (r2.sub a _ qa), q2.ok r2 st2 _ (itr_enum (fun g' l => .of (l.in_ a _ (l.sub a _ qa))) t)⟩
    | _ => cases ed
  | false =>
    refine PI.imp (pi_enum (show X.env.scope.names.lookup _ = _ by rw [c.sc]; exact hg) (by rw [c.mg]; exact hm) (pa_cons (h.p W X c) pa_nil (h.pl.st _ _)) (h.pl.st _ _)) fun σ H R ⟨κ, H0, s, g, e, r, q⟩ => ⟨κ, H0, s, g, e, r, ?_⟩
    have q : Fin L.Γ κ H0 σ W ((mx.p s).bind fun v s => (lift (lstItems? v) s).bind fun xs s => .ok (enumD 0 xs) s) g fun ds _ g' => ∀ J, Itr L.Γ κ false g' J ds → R J g'.H := q
    refine q.bind fun v s1 g1 r1 st1 q1 u hu => ?_
    obtain ⟨ds, ed, q2⟩ := Fin.lb (o := lstItems? v) q1
    cases v with
    | lst ds' =>
      cases ed
      obtain ⟨a, vs, ea, qa, n, t⟩ := hu
      subst ea
      rw [c.K]
      exact ⟨a, vs, rfl, .of qa, q2.ok r1 st1 _ (itr_enum (fun g' l => .of ((l.st rfl).keep a _ qa n)) t)⟩
    | _ => cases ed
end
end Ev

/-! the cup; try; a comprehension stored on its line -/
namespace Ev
open PySem PySem.Spec PyProof.Rows L2
section
variable {L : Law} {f : Frm} {pos : Pos}
theorem cup2_some {v : B} {m n : Int} (h : cup2? v = some (m, n)) : v = .new [.int m, .int n] := by
  unfold cup2? at h
  split at h
  · cases h; rfl
  · cases h
theorem s_cup {i : Nat} {x : Str} {p : Pos} {e : Expr} {me : Sm} (hN : f.N[i]? = some x) (hx : Loc f.sc x) (hf : f.cf x = true ∨ f.sc.names.lookup x = some .local) (he : OkE L f e me) (hs : ∀ env, swapsWithSole [.Name x p] e pos.line env = pure false) (hw : ∀ env, swappedStores [.Name x p] e env = pure none) :
    OkS L f (.Assign [.Name x p] e pos) (fun s => (me.b s).out fun v s => match cup2? v, s.cup with
    | some (x, y), none => if i < s.env.length then .nx { env := s.env.set i (some (.leaf .cup)), cup := some (x, y) } else .bad
    | _, _ => .bad) := fun W X c => by
  refine PS.imp (ps_asg (he.b W X c) (pg_name (i := i) (by rw [c.N]; exact c.nd) (by rw [c.N]; exact hN) (by rw [c.sc]; exact hx) (by rw [c.fn, c.sc]; exact hf)) (hs _) (hw _) rfl) fun D σ H ⟨κ0, F0, H0, κ, s, g, e, r, bs, h⟩ => ?_
  subst e
  refine ⟨κ, H0, s, g, rfl, r, (h.out r bs).imp fun v s1 g1 r1 st1 h1 u hu => ?_⟩
  cases hv : cup2? v with
  | none => simp only [hv] at h1; exact h1.elim
  | some mn =>
    obtain ⟨m, n⟩ := mn
    have hv2 := cup2_some hv
    subst hv2
    simp only [hv] at h1
    cases hc : s1.cup with
    | some _ => simp only [hc] at h1; exact h1.elim
    | none =>
      simp only [hc] at h1
      by_cases hi : i < s1.env.length
      · rw [if_pos hi] at h1
        obtain ⟨a, vs, ea, qa, ta, n0, l⟩ := hu
        have ev := rpl_ints (ns := [m, n]) rfl ta
        subst ev
        have hκ : κ = none := by
          have := r1.cup
          rw [hc] at this
          unfold CupOk at this
          cases κ with
          | none => rfl
          | some _ => exact this.elim
        subst hκ
        have b1 := bs.step r st1
        have h0 : H0 a = none := Classical.byContradiction fun z => r.grow a z n0
        have kl : KLe none (some a) := fun _ z => nomatch z
        have h1 : ∀ κ σ g, Rel L.Γ κ H0 σ { env := s1.env.set i (some (.leaf .cup)), cup := some (m, n) } g → Base κ0 F0 H0 κ g → D.nx σ g.H := h1
        refine h1 (some a) (σ.set i (some u)) ⟨g1.F, g1.H, fun j => if j = i then [] else g1.ow j⟩ ?_ ⟨fun b z => absurd (b1.kle b z) (fun z => nomatch z), fun b z => ?_, b1.sub, b1.keep, b1.new⟩
        · have r2 := r1.clear i
          have sub : ∀ {j b}, b ∈ (if j = i then [] else g1.ow j) → b ∈ g1.ow j := fun {j b} hb => by
            by_cases e : j = i
            · rw [if_pos e] at hb; cases hb
            · rw [if_neg e] at hb; exact hb
          have gs : ∀ j, getS { env := s1.env.set i (some (.leaf .cup)), cup := some (m, n) } j = if j = i then some (.leaf .cup) else getS s1 j := fun j => getS_set (s := s1) hi
          refine ⟨?_, fun j t ht => ?_, fun j ht => ?_, r2.nd, r2.dj, fun j b hb => ⟨(r1.fr j b (sub hb)).1, fun z => ?_⟩, r1.sub, ⟨l.1, qa⟩, r2.old, r1.grow⟩
          · show (s1.env.set i _).length = (σ.set i _).length
            rw [List.length_set, List.length_set]; exact r1.len
          · rw [gs] at ht
            by_cases e : j = i
            · subst e
              rw [if_pos rfl] at ht
              cases ht
              refine ⟨u, by rw [List.getElem?_set_self (by rw [← r1.len]; exact hi)], ?_, if_pos rfl⟩
              unfold Rp
              exact ⟨a, ea, rfl⟩
            · rw [if_neg e] at ht
              obtain ⟨w, hw, q⟩ := r1.slot j t ht
              refine ⟨w, by rw [List.getElem?_set_ne (Ne.symm e)]; exact hw, ?_⟩
              show RT L.Γ (some a) g1.F g1.H w t (if j = i then [] else g1.ow j)
              rw [if_neg e]
              exact RT.mono kl (Sub.refl _) (fun _ _ => rfl) q
          · rw [gs] at ht
            show (if j = i then [] else g1.ow j) = []
            by_cases e : j = i
            · rw [if_pos e]
            · rw [if_neg e]
              rw [if_neg e] at ht
              exact r1.emp j ht
          · cases z
            exact l.2.1 j (sub hb)
        · cases z
          exact .inr h0
      · rw [if_neg hi] at h1; exact h1.elim

/-! ### try -/
/-- a context of an except suite -/
structure CxU (L : Law) (f : Frm) (X : Cx) : Prop where
  K : X.K = L.Γ.K
  N : X.N = f.N
  nd : f.N.Nodup
  sc : X.env.scope = f.sc
  fn : X.fn = f.cf
def OkU (L : Law) (f : Frm) (xs : List Stmt) (m : St → Out) : Prop := ∀ X, CxU L f X → PSs X xs (spS L.Γ (fun _ _ _ _ => False) m)
/-- a constant, anywhere -/
structure Con (x : Expr) (d : D) : Prop where
  pe : ∃ v, (∀ X, PE X x (tC v)) ∧ ∀ Γ κ F, Rp Γ κ F v d
theorem con_int {i : Int} {j : Nat} {p : Pos} : Con (.Constant (.int i) j p) (.int i) := ⟨_, fun _ => pe_int, fun _ _ _ => rp_int _⟩
theorem con_bl {i : Bool} {j : Nat} {p : Pos} : Con (.Constant (.bool i) j p) (.bl i) := ⟨_, fun _ => pe_bl, fun _ _ _ => rp_bl _⟩
theorem con_str {i : Str} {j : Nat} {p : Pos} : Con (.Constant (.str i) j p) (.str i) := ⟨_, fun _ => pe_str, fun _ _ _ => rp_str _⟩
theorem con_non {j : Nat} {p : Pos} : Con (.Constant .none j p) .non := ⟨_, fun _ => pe_non, fun _ _ _ => rp_non⟩
theorem u_nil : OkU L f [] .nx := fun X c => PSs.imp pss_nil fun D σ H ⟨κ0, F0, H0, κ, s, g, e, r, bs, h⟩ => by subst e; exact h κ σ g r bs
/-- x = const, on its own -/
theorem u_set {i : Nat} {x : Str} {p : Pos} {e : Expr} {d : D} {xs : List Stmt} {m : St → Out} (hN : f.N[i]? = some x) (hx : Loc f.sc x) (hf : f.cf x = true ∨ f.sc.names.lookup x = some .local) (he : Con e d) (hs : ∀ env, swapsWithSole [.Name x p] e pos.line env = pure false) (hw : ∀ env, swappedStores [.Name x p] e env = pure none) (t : OkU L f xs m) :
    OkU L f (.Assign [.Name x p] e pos :: xs) (fun s => (((sCon d).b s).out fun v s => ((sVar i).g v s).out fun _ s => .nx s).then m) := fun X c => by
  obtain ⟨v, hv, hr⟩ := he.pe
  refine PSs.imp (pss_cons (ps_asg (hv X) (pg_name (i := i) (by rw [c.N]; exact c.nd) (by rw [c.N]; exact hN) (by rw [c.sc]; exact hx) (by rw [c.fn, c.sc]; exact hf)) (hs _) (hw _) rfl) (t X c)) fun D σ H ⟨κ0, F0, H0, κ, s, g, e, r, bs, h⟩ => ?_
  subst e
  have h : FinO L.Γ κ0 F0 H0 (fun _ _ _ _ => False) (((if i < s.env.length then R.ok () (setS s i (.leaf d)) else .bad).out fun _ s => .nx s).then m) D := h
  by_cases hi : i < s.env.length
  · rw [if_pos hi] at h
    obtain ⟨g1, r1, st1, e1⟩ := r.setLeaf (v := v) (d := d) hi (hr _ _ _)
    refine ⟨κ0, F0, H0, κ, _, g1, e1, r1, bs.step r st1, h⟩
  · rw [if_neg hi] at h; exact h.elim
theorem u_ret {e : Expr} {d : D} {xs : List Stmt} {m : St → Out} (he : Con e d) : OkU L f (.Return (some e) pos :: xs) (fun s => (((sCon d).b s).out fun b s => .rt b s).then m) := fun X c => by
  obtain ⟨v, hv, hr⟩ := he.pe
  refine PSs.imp (pss_cons (ps_ret (hv X)) pss_never) fun D σ H ⟨κ0, F0, H0, κ, s, g, e, r, bs, h⟩ => ?_
  subst e
  have h : FinO L.Γ κ0 F0 H0 (fun _ _ _ _ => False) (.rt (.val d) s) D := h
  exact h κ σ s g v rfl r bs (hr _ _ _)
theorem u_pass {xs : List Stmt} {m : St → Out} (t : OkU L f xs m) : OkU L f (.Pass pos :: xs) (fun s => (Out.nx s).then m) := fun X c => PSs.imp (pss_cons ps_pass (t X c)) fun D σ H ⟨κ0, F0, H0, κ, s, g, e, r, bs, h⟩ => by
  subst e
  exact ⟨κ0, F0, H0, κ, s, g, rfl, r, bs, h⟩
theorem CxG.try_ {W W' : WX} {X : Cx} (c : CxG L f W X) {pn : List (Addr × Obj)} {xe : Value → Shared → Prop} (tk : Takes (X.tr pn xe) W') (po : PassesOwn (model X.prog X.w) X.A X.env xe) : CxG L f W' (X.tr pn xe) :=
  { prog := c.prog, w := c.w, K := c.K, mg := c.mg, base := c.base, N := c.N, nd := c.nd, sc := c.sc, fn := c.fn, calm := c.calm, room := c.room, tk := tk, po := po, top := c.top }
theorem CxG.suite {W : WX} {X : Cx} (c : CxG L f W X) {a : Addr} {pn : List (Addr × Obj)} : CxU L f (X.suite a pn) := ⟨c.K, c.N, c.nd, c.sc, c.fn⟩
theorem spS_mono {Γ : Gam} {W W' : WX} {m : St → Out} {D : Ends} {σ : L2.St} {H : Hp} (h : spS Γ W m D σ H) (nx : ∀ s c s', m s ≠ .xc c s') : spS Γ W' m D σ H := by
  obtain ⟨κ0, F0, H0, κ, s, g, e, r, bs, h⟩ := h
  refine ⟨κ0, F0, H0, κ, s, g, e, r, bs, ?_⟩
  cases q : m s with
  | xc c s' => exact absurd q (nx _ _ _)
  | nx s' => rw [q] at h; exact h
  | bk s' => rw [q] at h; exact h
  | ct s' => rw [q] at h; exact h
  | rt b s' => rw [q] at h; exact h
  | bad => rw [q] at h; exact h.elim
theorem s_try {x : Str} {k : Nat} {body suite : List Stmt} {b₀ : Stmt} {np p2 : Pos} {bm sm : St → Out} {xm : Nat → Nat → Option Bool} (ht : f.top = true) (hg : f.sc.names.lookup x = some .globalImplicit) (hm : L.mg x = some (.ref (L.Γ.ca k))) (hd : (x == ("__debug__" : Str)) = false)
    (hx : ∀ j b, xm j k = some b → PySem.W.exmOne L.Γ.K (.ref (L.Γ.ca j)) (.ref (L.Γ.ca k)) = some b) (hb : OkSs L f body bm) (hs : OkU L f (b₀ :: suite) sm) (nx : ∀ s c s', sm s ≠ .xc c s') :
    OkS L f (.Try body [.ExceptHandler (some (.Name x np)) none (b₀ :: suite) p2] [] [] pos) (fun s => match bm s with
    | .xc j s => (match xm j k with
      | some true => sm s
      | some false => .xc j s
      | none => .bad)
    | o => o) := fun W X c => by
  obtain ⟨h1, h2⟩ := c.top ht
  have hn : Names X x (.ref (L.Γ.ca k)) := ⟨show X.env.scope.names.lookup _ = _ by rw [c.sc]; exact hg, hd, .inl (by rw [c.mg]; exact hm)⟩
  refine PS.imp (ps_try_only (tb := fun W' => spS L.Γ W' bm) (ts := fun _ _ _ => spS L.Γ (fun _ _ _ _ => False) sm) h1 h2 hn c.tk (fun W' pn xe tk po => hb W' _ (c.try_ tk po)) (fun a oe cls d pn _ _ => hs _ c.suite)) fun D σ H ⟨κ0, F0, H0, κ, s, g, e, r, bs, h⟩ => ?_
  subst e
  refine ⟨κ0, F0, H0, κ, s, g, rfl, r, bs, ?_⟩
  dsimp only at h
  cases q : bm s with
  | nx s' => rw [q] at h; exact h
  | bk s' => rw [q] at h; exact h
  | ct s' => rw [q] at h; exact h
  | rt b s' => rw [q] at h; exact h
  | bad => rw [q] at h; exact h
  | xc j s' =>
    rw [q] at h
    dsimp only at h
    intro κ' σ' g' r' b'
    cases e : xm j k with
    | none => rw [e] at h; exact h.elim
    | some b =>
      rw [e] at h
      refine ⟨b, by rw [c.K]; exact hx j b e, fun hb a na => ?_, fun hb => ?_⟩
      · subst hb
        refine spS_mono (W := W) ⟨κ0, F0, H0, κ', s', g', rfl, r', b', h⟩ nx
      · subst hb
        exact h κ' σ' g' r' b'

/-! ### a comprehension stored on its own line -/
theorem s_setLc {i : Nat} {y : Str} {py : Pos} {elt tg iter : Expr} {ifs : List Expr} {scope : Scope} {vs : List Nat} {mg mi mc me : Sm} {cpos : Pos} (hy : f.N[i]? = some y) (hyl : f.sc.names.lookup y = some .local) (hk : f.sc.kind = .function) (hl : (py.line == cpos.line) = true)
    (ha : (scope.names.any fun (n, k) => n == y && (k == .local || k == .cell)) = false) (h : OkComp L f elt tg iter ifs scope vs mg mi mc me) :
    OkS L f (.Assign [.Name y py] (.ListComp elt [⟨tg, iter, ifs, 0⟩] scope cpos) pos) (fun s => ((sComp vs mg mi mc me).b s).out fun v s => ((sVar i).g v s).out fun _ s => .nx s) := fun W X c => by
  obtain ⟨⟨own, rfl, hb⟩, hi, ⟨tv, htv, hg⟩, hc, he⟩ := h
  have sw : swapsWith (.ListComp elt [⟨tg, iter, ifs, 0⟩] scope cpos) (some (.Name y py)) pos.line X.env = pure true := sw_true (by rw [c.sc]; exact hk) (by rw [c.sc]; exact hyl) hl ha
  refine PS.imp (ps_setLc c.calm (by rw [c.N]; exact c.nd) (by rw [c.N]; exact hy) (by rw [c.sc]; exact hyl) sw (hi.i false W X c) (blkOk_by (own := own) (by rw [c.N, c.sc]; exact hb)) (fun s H C cl fp => hg.g _ _ (c.blk scope s H C cl fp)) (fun s H C cl fp => hc.pts _ _ (c.blk scope s H C cl fp)) (fun s H C cl fp => he.b _ _ (c.blk scope s H C cl fp)) (hi.fs _)) fun D σ H ⟨κ0, F0, H0, κ, s, g, e, r, bs, h⟩ => ?_
  subst e
  refine comp_imp (scope := scope) (tgx := tg) (itx := iter) (tt := fun _ _ _ => False) htv hg.nox σ g.H _ ⟨κ, H0, s, g, rfl, r, (h.out r bs).imp fun v s1 g1 r1 st1 h1 u hu => ?_⟩
  have h1 : FinO L.Γ κ0 F0 H0 W (((if i < s1.env.length then R.ok () (setS s1 i v.t) else .bad)).out fun _ s => .nx s) D := h1
  have b1 := bs.step r st1
  have hu := RB.sinceH0 r hu
  by_cases hi : i < s1.env.length
  · rw [if_pos hi] at h1
    have h1 : ∀ κ σ g, Rel L.Γ κ H0 σ (setS s1 i v.t) g → Base κ0 F0 H0 κ g → D.nx σ g.H := h1
    have fin : ∀ {as : List Addr}, Rel L.Γ κ H0 (σ.set i (some u)) (setS s1 i v.t) ⟨g1.F, g1.H, fun j => if j = i then as else g1.ow j⟩ → D.nx (σ.set i (some u)) g1.H := fun {as} r' =>
      h1 κ _ ⟨g1.F, g1.H, fun j => if j = i then as else g1.ow j⟩ r' ⟨b1.kle, b1.kf, b1.sub, b1.keep, b1.new⟩
    cases v with
    | val d => exact fin (r1.setT hi (t := .leaf d) (as := []) ⟨hu, rfl⟩ .nil fun a ha => by cases ha)
    | new ds =>
      obtain ⟨a, vs, ea, qa, ta, n, l⟩ := hu
      refine fin (r1.setT hi (t := .own ds) (as := [a]) ⟨a, vs, ea, rfl, qa, ta⟩ (by simp) fun b hb => ?_)
      rw [List.mem_singleton.mp hb]
      exact ⟨l.1, fun j _ => l.2.1 j, l.2.2, n⟩
    | new2 dss =>
      obtain ⟨a, as, ea, qa, ta, l, nd⟩ := hu
      refine fin (r1.setT hi (t := .own2 dss) (as := a :: as) ⟨a, as, ea, rfl, qa, ta⟩ nd fun b hb => ?_)
      exact ⟨(l b hb).2.1, fun j _ => (l b hb).2.2.1 j, (l b hb).2.2.2, (l b hb).1⟩
    | newd ks ds =>
      obtain ⟨a, ws, ea, qa, ek, ta, n, l⟩ := hu
      refine fin (r1.setT hi (t := .dct ks ds) (as := [a]) ⟨a, ws, ea, rfl, qa, ek, ta⟩ (by simp) fun b hb => ?_)
      rw [List.mem_singleton.mp hb]
      exact ⟨l.1, fun j _ => l.2.1 j, l.2.2, n⟩
  · rw [if_neg hi] at h1; exact h1.elim
end
end Ev

/-! a comprehension of two clauses stored on its own line -/
namespace Ev
open PySem PySem.Spec PyProof.Rows L2
section
variable {L : Law} {f : Frm}
theorem s_setLc2 {i : Nat} {y : Str} {py : Pos} {elt tg iter tg1 iter1 : Expr} {ifs ifs1 : List Expr} {scope : Scope} {vs vs1 : List Nat} {mg mi mc mg1 mi1 mc1 me : Sm} {cpos pos : Pos} (hy : f.N[i]? = some y) (hyl : f.sc.names.lookup y = some .local) (hk : f.sc.kind = .function) (hl : (py.line == cpos.line) = true)
    (ha : (scope.names.any fun (n, k) => n == y && (k == .local || k == .cell)) = false) (h : OkComp2 L f elt tg iter tg1 iter1 ifs ifs1 scope vs vs1 mg mi mc mg1 mi1 mc1 me) :
    OkS L f (.Assign [.Name y py] (.ListComp elt [⟨tg, iter, ifs, 0⟩, ⟨tg1, iter1, ifs1, 0⟩] scope cpos) pos) (fun s => ((sComp2 vs vs1 mg mi mc mg1 mi1 mc1 me).b s).out fun v s => ((sVar i).g v s).out fun _ s => .nx s) := fun W X c => by
  obtain ⟨⟨own, rfl, hb⟩, hsub, hi, ⟨tv, htv, hg⟩, hc, hi1, ⟨tv1, htv1, hg1⟩, hc1, he⟩ := h
  have sw : swapsWith (.ListComp elt [⟨tg, iter, ifs, 0⟩, ⟨tg1, iter1, ifs1, 0⟩] scope cpos) (some (.Name y py)) pos.line X.env = pure true := sw_true (by rw [c.sc]; exact hk) (by rw [c.sc]; exact hyl) hl ha
  refine PS.imp (ps_setLc2 c.calm (by rw [c.N]; exact c.nd) (by rw [c.N]; exact hy) (by rw [c.sc]; exact hyl) sw (hi.i false W X c) (blkOk_by (own := own) (by rw [c.N, c.sc]; exact hb)) hsub (fun s H C cl fp => hg.g _ _ (c.blk scope s H C cl fp)) (fun s H C cl fp => hc.pts _ _ (c.blk scope s H C cl fp)) (fun s H C cl fp => hi1.i true _ _ (c.blk scope s H C cl fp)) (fun s H C cl fp => hg1.g _ _ (c.blk scope s H C cl fp)) (fun s H C cl fp => hc1.pts _ _ (c.blk scope s H C cl fp)) (fun s H C cl fp => he.b _ _ (c.blk scope s H C cl fp)) (hi.fs _) (fun env x => hi1.fs env x)) fun D σ H ⟨κ0, F0, H0, κ, s, g, e, r, bs, h⟩ => ?_
  subst e
  refine comp2_imp htv htv1 σ g.H _ ⟨κ, H0, s, g, rfl, r, (h.out r bs).imp fun v s1 g1 r1 st1 h1 u hu => ?_⟩
  have h1 : FinO L.Γ κ0 F0 H0 W (((if i < s1.env.length then R.ok () (setS s1 i v.t) else .bad)).out fun _ s => .nx s) D := h1
  have b1 := bs.step r st1
  have hu := RB.sinceH0 r hu
  by_cases hi : i < s1.env.length
  · rw [if_pos hi] at h1
    have h1 : ∀ κ σ g, Rel L.Γ κ H0 σ (setS s1 i v.t) g → Base κ0 F0 H0 κ g → D.nx σ g.H := h1
    have fin : ∀ {as : List Addr}, Rel L.Γ κ H0 (σ.set i (some u)) (setS s1 i v.t) ⟨g1.F, g1.H, fun j => if j = i then as else g1.ow j⟩ → D.nx (σ.set i (some u)) g1.H := fun {as} r' =>
      h1 κ _ ⟨g1.F, g1.H, fun j => if j = i then as else g1.ow j⟩ r' ⟨b1.kle, b1.kf, b1.sub, b1.keep, b1.new⟩
    cases v with
    | val d => exact fin (r1.setT hi (t := .leaf d) (as := []) ⟨hu, rfl⟩ .nil fun a ha => by cases ha)
    | new ds =>
      obtain ⟨a, vs, ea, qa, ta, n, l⟩ := hu
      refine fin (r1.setT hi (t := .own ds) (as := [a]) ⟨a, vs, ea, rfl, qa, ta⟩ (by simp) fun b hb => ?_)
      rw [List.mem_singleton.mp hb]
      exact ⟨l.1, fun j _ => l.2.1 j, l.2.2, n⟩
    | new2 dss =>
      obtain ⟨a, as, ea, qa, ta, l, nd⟩ := hu
      refine fin (r1.setT hi (t := .own2 dss) (as := a :: as) ⟨a, as, ea, rfl, qa, ta⟩ nd fun b hb => ?_)
      exact ⟨(l b hb).2.1, fun j _ => (l b hb).2.2.1 j, (l b hb).2.2.2, (l b hb).1⟩
    | newd ks ds =>
      obtain ⟨a, ws, ea, qa, ek, ta, n, l⟩ := hu
      refine fin (r1.setT hi (t := .dct ks ds) (as := [a]) ⟨a, ws, ea, rfl, qa, ek, ta⟩ (by simp) fun b hb => ?_)
      rw [List.mem_singleton.mp hb]
      exact ⟨l.1, fun j _ => l.2.1 j, l.2.2, n⟩
  · rw [if_neg hi] at h1; exact h1.elim
end
end Ev

/-! dicts whose keys are tuples of ints -/
namespace Ev
open PySem PySem.Spec PyProof.Rows L2 EZ
theorem kI_kV (k : List Int) : (kI k).map kV = k.map V.int := by unfold kI; rw [List.map_map]; rfl
theorem kI_inj : ∀ {k l : List Int}, kI k = kI l → k = l
  | [], [], _ => rfl
  | [], _ :: _, h => by cases h
  | _ :: _, [], h => by cases h
  | a :: k, b :: l, h => by
    injection h with h1 h2
    injection h1 with h1
    rw [h1, kI_inj h2]
/-- found alike -/
def VR (Γ : Gam) (κ : Option Addr) (F : Hp) : Option D → Option V → Prop
  | some d, some v => Rp Γ κ F v d
  | none, none => True
  | _, _ => False
section
variable {Γ : Gam} {κ : Option Addr} {F H : Hp}
/-- what stands at a key -/
theorem dct_val {k : List Int} : ∀ {ks : List (List Int)} {ds : List D} {ws : List (List Key × V)}, ws.map Prod.fst = ks.map kI → RpL Γ κ F (ws.map Prod.snd) ds → VR Γ κ F (dAt k ks ds) (valV ws (kI k))
  | [], ds, [], _, h => by unfold dAt valV; exact trivial
  | [], ds, _ :: _, e, h => by cases e
  | _ :: _, ds, [], e, h => by cases e
  | a :: ks, [], w :: ws, e, h => by rw [List.map_cons] at h; cases h.inv0
  | a :: ks, d :: ds, w :: ws, e, h => by
    rw [List.map_cons, List.map_cons] at e
    injection e with e1 e2
    rw [List.map_cons] at h
    obtain ⟨v, r, ev, h1, t⟩ := h.inv
    injection ev with ev1 ev2
    by_cases q : a = k
    · have q' : w.1 = kI k := by rw [e1, q]
      have b : dAt k (a :: ks) (d :: ds) = some d := by unfold dAt; simp [List.zip_cons_cons, List.find?_cons, q]
      rw [b, valV_pos q', ev1]
      exact h1
    · have q' : ¬ w.1 = kI k := fun z => q (kI_inj (e1.symm.trans z))
      have b : dAt k (a :: ks) (d :: ds) = dAt k ks ds := by unfold dAt; simp [List.zip_cons_cons, List.find?_cons, q]
      rw [b, valV_neg q']
      exact dct_val e2 (by rw [ev2]; exact t)
theorem dct_len {ks : List (List Int)} {ds : List D} {ws : List (List Key × V)} (e : ws.map Prod.fst = ks.map kI) (h : RpL Γ κ F (ws.map Prod.snd) ds) : ws.length = ks.length ∧ ds.length = ks.length := by
  have h1 := congrArg List.length e
  rw [List.length_map, List.length_map] at h1
  have h2 := h.length
  rw [List.length_map] at h2
  exact ⟨h1, by omega⟩
theorem dct_repl {k : List Int} {v : V} {d : D} (p : Rp Γ κ F v d) : ∀ {ks : List (List Int)} {ds : List D} {ws : List (List Key × V)}, ws.map Prod.fst = ks.map kI → RpL Γ κ F (ws.map Prod.snd) ds →
    (ws.map fun kv => if kv.1 = kI k then (kv.1, v) else kv).map Prod.fst = ks.map kI ∧ RpL Γ κ F ((ws.map fun kv => if kv.1 = kI k then (kv.1, v) else kv).map Prod.snd) (List.zipWith (fun a x => if a = k then d else x) ks ds)
  | [], ds, [], e, h => ⟨rfl, by simpa using RpL.nil⟩
  | [], ds, _ :: _, e, h => by cases e
  | _ :: _, ds, [], e, h => by cases e
  | a :: ks, [], w :: ws, e, h => by rw [List.map_cons] at h; cases h.inv0
  | a :: ks, x :: ds, w :: ws, e, h => by
    rw [List.map_cons, List.map_cons] at e
    injection e with e1 e2
    rw [List.map_cons] at h
    obtain ⟨u, r, ev, h1, t⟩ := h.inv
    injection ev with ev1 ev2
    obtain ⟨i1, i2⟩ := dct_repl p e2 (by rw [ev2]; exact t)
    by_cases q : a = k
    · have q' : w.1 = kI k := by rw [e1, q]
      rw [List.map_cons, List.map_cons, List.map_cons, List.map_cons, if_pos q', List.zipWith_cons_cons, if_pos q]
      exact ⟨by rw [i1, e1], .cons p i2⟩
    · have q' : ¬ w.1 = kI k := fun z => q (kI_inj (e1.symm.trans z))
      rw [List.map_cons, List.map_cons, List.map_cons, List.map_cons, if_neg q', List.zipWith_cons_cons, if_neg q]
      exact ⟨by rw [i1, e1], .cons (by rw [ev1]; exact h1) i2⟩
theorem dct_any {k : List Int} : ∀ {ks : List (List Int)} {ws : List (List Key × V)}, ws.map Prod.fst = ks.map kI → (ws.any fun kv => decide (kv.1 = kI k)) = ks.contains k
  | [], [], _ => rfl
  | [], _ :: _, e => by cases e
  | _ :: _, [], e => by cases e
  | a :: ks, w :: ws, e => by
    rw [List.map_cons, List.map_cons] at e
    injection e with e1 e2
    rw [List.any_cons, List.contains_cons, dct_any e2, e1]
    by_cases q : a = k
    · subst q; simp
    · have q' : ¬ kI a = kI k := fun z => q (kI_inj z)
      have q2 : ¬ k = a := fun z => q z.symm
      simp [q', q2]
/-- a key set -/
theorem dct_put {k : List Int} {v : V} {d : D} {ks : List (List Int)} {ds : List D} {ws : List (List Key × V)} (p : Rp Γ κ F v d) (e : ws.map Prod.fst = ks.map kI) (h : RpL Γ κ F (ws.map Prod.snd) ds) :
    (putK ws (kI k) v).map Prod.fst = (dPut k d ks ds).1.map kI ∧ RpL Γ κ F ((putK ws (kI k) v).map Prod.snd) (dPut k d ks ds).2 := by
  unfold putK dPut
  rw [dct_any e]
  cases q : ks.contains k with
  | true =>
    rw [if_pos rfl, if_pos rfl]
    exact dct_repl p e h
  | false =>
    rw [if_neg (by simp), if_neg (by simp)]
    refine ⟨by simp [e], ?_⟩
    show RpL Γ κ F _ (ds ++ [d])
    rw [List.map_append]
    exact h.append (.cons p .nil)
theorem key_ints {d : D} {n : List Int} (e : key? d = some n) : ∃ ds, d = .tup ds ∧ ints? ds = some n := by
  cases d with
  | tup ds => exact ⟨ds, rfl, e⟩
  | _ => cases e
/-- a key's tuple -/
theorem key_tup {H0 : Hp} {σ : L2.St} {s : St} {g : Gh} (r : Rel Γ κ H0 σ s g) {v : V} {d : D} {n : List Int} (h : Pk Γ κ g v d) (e : key? d = some n) : ∃ b, v = .ref b ∧ g.H b = some (.tup ((kI n).map kV)) := by
  obtain ⟨ds, rfl, e⟩ := key_ints e
  have h' : Rp Γ κ g.F v (.tup ds) := h
  unfold Rp at h'
  obtain ⟨a, vs, ev, q, t⟩ := h'
  rw [rpl_ints e t] at q
  exact ⟨a, ev, by rw [kI_kV]; exact r.sub a _ q⟩
end
/-- {k: v} -/
def tDnew1 (tk tv : TE) : TE := fun σ H Q => ∀ p, H p = none → tk σ (upd H p (.dT [])) fun x H1 => tv σ H1 fun y H2 => H2 p = some (.dT []) ∧ ∃ b k, x = .ref b ∧ H2 b = some (.tup (k.map kV)) ∧ Q (.ref p) (upd H2 p (.dT [(k, y)]))
theorem pe_dnew1 {X : Cx} {k v : Expr} {pos : Pos} {tk tv : TE} (hu : X.A.units + 1 < cLine) (hk : PE X k tk) (hv : PE X v tv) : PE X (.Dict [some k] [v] pos) (tDnew1 tk tv) := by
  refine ⟨fun pins s σ H Q I q => ?_⟩
  have hn := I.hok.fresh (Nat.le_refl s.heap.objs.size)
  have I1 := I.laid (a := s.heap.objs.size) (o := .dT []) (h' := s.heap.push { cls := .type "dict", data := .dict #[] }) (t' := s.toks) (fun _ _ q => Heap.get?_push_of_some _ q) (Nat.le_refl _) (dt_empty s.heap I.big)
  have hp : PPs X pos [some k] [v] [(tk, tv)] := pps_cons hk hv pps_nil
  rw [arm_eval_Dict, show (evalEachOpt [some k] X.env).zip ((evalEach [v] X.env).map fun v => do let x ← v; standAt pos; pure x) = (pairTrees [some k] [v] X.env pos).map (fun p => (some p.1, p.2)) from rfl, dictDisplay_pairs _ (by simp [pairTrees]) (by simp [pairTrees])]
  refine wpAny_bind (wpAny_standAt (wpAny_bind (wpAny_subDictH (knd := tupleKind (mixKind X.prog X.w)) (Q := fun d s' => wpAny (model X.prog X.w) X.A (pure (Value.ref d)) _ X.xe s') (show X.A.units < cLine by omega) (by simp [pairTrees])
    (thn (hp.run pins _ σ _ (fun ps H2 => match ps with
      | [(x, y)] => H2 s.heap.objs.size = some (.dT []) ∧ ∃ b k, x = .ref b ∧ H2 b = some (.tup (k.map kV)) ∧ Q (.ref s.heap.objs.size) (upd H2 s.heap.objs.size (.dT [(k, y)]))
      | _ => False) I1 (q _ hn)) fun ws s2 ⟨ps, H2, I2, rel, q2⟩ => ?_))))
  match ps, q2 with
  | [(x, y)], ⟨e, b, kk, ex, eb, q3⟩ =>
    subst ex
    cases rel with
    | @cons _ w2 _ _ rw_ t =>
      cases t
      obtain ⟨u, r⟩ := w2
      obtain ⟨ru, rr⟩ := rw_
      cases (show u = Value.ref b from ru)
      obtain ⟨z, hd, xs, rel, dd⟩ := dt_of I2.hok e
      cases rel
      refine ⟨[(kk, b, r)], ⟨rfl, rfl, key_of I2.hok eb, trivial⟩, dd, fun h' tk dd' hs => wpAny_pure ⟨.ref s.heap.objs.size, _, ?_, rfl, q3⟩⟩
      obtain ⟨q, es, ep, hq, h2, h3, h4, _, h5⟩ := dd'
      refine d_write I2 (by rw [e]; exact True.intro) hs ⟨q, hq⟩ ⟨by rw [sizeLine_eq]; simp, hd, [(kk, b, r)], .cons ⟨rfl, ?_, rr⟩ .nil, q, es, ep, hq, h2, h3, h4, h5⟩
      rw [upd_ne (ne_of eb e (fun z => nomatch z))]
      exact eb
section
variable {L : Law} {f : Frm} {x y z : Expr} {mx my mz : Sm} {pos : Pos}
theorem ok_dnew : OkE L f (.Dict [] [] pos) sDnew := OkE.of ⟨fun _ _ => rfl, fun _ _ => rfl, fun _ => rfl, fun _ _ => rfl, fun _ _ _ _ h => nomatch h⟩ (fun W X c => PE.imp pe_dnewT fun σ H Q ⟨κ, H0, s, g, e, r, q⟩ => by
  subst e
  intro p hp
  obtain ⟨r2, st2, l⟩ := r.laid hp (.dT [])
  exact Fin.ok (s := s) q r2 st2 (.ref p) ⟨p, [], rfl, upd_same, rfl, .nil, hp, l⟩) fun _ _ => rfl
theorem Fin.bindK {κ : Option Addr} {H0 : Hp} {σ : L2.St} {W : WX} {α β : Type} {r : R α} {g g1 : Gh} {P : β → St → Gh → Prop} {fn : α → St → R β} {P' : α → St → Gh → Prop} (h : Fin L.Γ κ H0 σ W (r.bind fn) g P) (st : StepE κ g g1) (k : ∀ a s g', Rel L.Γ κ H0 σ s g' → StepE κ g1 g' → Fin L.Γ κ H0 σ W (fn a s) g P → P' a s g') : Fin L.Γ κ H0 σ W r g1 P' := by
  cases r with
  | ok a s => exact fun g' r st' => k a s g' r st' h
  | exc c s => exact fun g' r q => h g' r (st.trans q)
  | bad => exact h.elim
theorem ok_dnew1 (hk : OkE L f x mx) (hv : OkE L f y my) : OkE L f (.Dict [some x] [y] pos) (sDnew1 mx my) := by
  refine OkE.of ⟨fun _ _ => rfl, fun _ _ => rfl, fun _ => rfl, fun _ _ => rfl, fun _ _ _ _ h => nomatch h⟩ (fun W X c => PE.imp (pe_dnew1 (by have := units_ok c; omega) (hk.p W X c) (hv.b W X c)) fun σ H Q ⟨κ, H0, s, g, e, r, q⟩ => ?_) fun _ _ => rfl
  subst e
  intro p hp
  obtain ⟨r2, st2, l⟩ := r.laid hp (.dT [])
  have hH : (⟨g.F, upd g.H p (.dT []), g.ow⟩ : Gh).H p = some (.dT []) := upd_same
  refine ⟨κ, H0, s, ⟨g.F, upd g.H p (.dT []), g.ow⟩, rfl, r2, Fin.bindK q st2 fun d s3 g3 r3 st3 h3 u hu => ⟨κ, H0, s3, g3, rfl, r3, Fin.bindK h3 (st2.trans st3) fun b s4 g4 r4 st4 h4 v hv => ?_⟩⟩
  obtain ⟨n, en, h5⟩ := Fin.lb (o := key? d) h4
  obtain ⟨g5, e5, r5, st5, p5⟩ := RB.frz' r4 st4 hv
  have st25 := st3.trans st5
  have hp5 : g5.H p = some (.dT []) := st25.keep p _ hH l.2.2
  have l5 : Loose κ g5 p := l.step st25 (by rw [hH]; exact .d)
  obtain ⟨bb, ev, eb⟩ := key_tup r5 (hu.step st5) en
  rw [← e5]
  refine ⟨hp5, bb, kI n, ev, eb, ?_⟩
  have r6 := r5.updLoose l5 (.dT [(kI n, v)])
  refine h5.ok (g1 := ⟨g5.F, upd g5.H p (.dT [(kI n, v)]), g5.ow⟩) r6 ?_ (.ref p) ⟨p, [(kI n, v)], rfl, upd_same, rfl, .cons p5 .nil, hp, l5.1, l5.2.1, l5.2.2⟩
  have z := st2.trans st25
  refine ⟨fun a o h n => ?_, z.sub, z.new, z.ow, fun a h => ?_⟩
  · show L2.upd g5.H p _ a = some o
    rw [upd_ne fun q => by rw [q, hp] at h; cases h]
    exact z.keep a o h n
  · show L2.upd g5.H p _ a ≠ none
    by_cases q : a = p
    · rw [q, upd_same]; exact fun z => nomatch z
    · rw [upd_ne q]; exact z.there a h
/-- a dict looked at -/
theorem pk_dct {Γ : Gam} {κ : Option Addr} {g : Gh} {v : V} {l : Bool} {ks : List (List Int)} {ds : List D} (h : Pk Γ κ g v (.dct l ks ds)) : ∃ a ws, v = .ref a ∧ Rd g.H a (.dT ws) ∧ ws.map Prod.fst = ks.map kI ∧ RpL Γ κ g.F (ws.map Prod.snd) ds := by
  obtain ⟨a, ws, e, q, _, ek, t⟩ := h
  exact ⟨a, ws, e, q, ek, t⟩
theorem dAtO_some {x y : D} {o : Option D} (e : dAtO x y = some o) : ∃ l ks vs n, x = .dct l ks vs ∧ key? y = some n ∧ o = dAt n ks vs := by
  unfold dAtO at e
  split at e
  · rename_i l ks vs n h
    cases e
    exact ⟨l, ks, vs, n, rfl, h, rfl⟩
  · cases e
/-- x.get(k, d) -/
theorem ok_dget {nm : Str} {np ap cp : Pos} (hx : OkE L f (.Name nm np) mx) (hk : OkE L f y my) (hd : OkE L f z mz) (hl : (ap.endLine == cp.line) = true) : OkE L f (.Call (.Attribute (.Name nm np) "get" ap) [y, z] [] cp) (sDget mx my mz) := by
  refine OkE.of ⟨fun _ _ => rfl, fun _ _ => rfl, fun _ => rfl, fun _ _ => rfl, fun _ _ _ _ h => nomatch h⟩ (fun W X c => ?_) fun _ _ => rfl
  have hb : backTo cp (starEach [y, z] X.env) = [(false, eval y X.env), (false, eval z X.env)] := by rw [hk.pl.st, hd.pl.st]; rfl
  refine PE.imp (pe_dget2 (by have := units_ok c; omega) (hx.p W X c) (hk.p W X c) (hd.b W X c) ⟨rfl, by rw [hb]; rfl, hl, hb⟩) fun σ H Q ⟨κ, H0, s, g, e, r, h⟩ => ?_
  subst e
  refine ⟨κ, H0, s, g, rfl, r, h.bind fun x s1 g1 r1 st1 h1 u hu => ?_⟩
  cases x with
  | dct l ks ds =>
    obtain ⟨a, ws, ea, q, ek, t⟩ := pk_dct hu
    refine ⟨a, ea, .inr ⟨ws, q⟩, κ, H0, s1, g1, rfl, r1, (Fin.later h1 st1).bind fun y2 s2 g2 r2 st2 h2 v hv => ⟨κ, H0, s2, g2, rfl, r2, (h2.later st2).bind fun b s3 g3 r3 st3 h3 w hw => ?_⟩⟩
    obtain ⟨n, en, h4⟩ := Fin.lb (o := key? y2) h3
    obtain ⟨g4, e4, r4, st4, p4⟩ := RB.frz' r3 st3 hw
    obtain ⟨a2, ws2, ea2, q2, ek2, t2⟩ := pk_dct ((hu.step st2).step st4)
    rw [ea] at ea2
    cases ea2
    obtain ⟨bb, ev, eb⟩ := key_tup r4 (hv.step st4) en
    rw [← e4]
    refine ⟨_, .inr ⟨ws2, kI n, bb, q2, ev, eb, rfl⟩, h4.ok r4 st4 _ ?_⟩
    have z := dct_val (k := n) ek2 t2
    show Rp L.Γ κ g4.F _ _
    cases e1 : dAt n ks ds with
    | none =>
      cases e2 : valV ws2 (kI n) with
      | none => exact p4
      | some v2 => rw [e1, e2] at z; exact z.elim
    | some d2 =>
      cases e2 : valV ws2 (kI n) with
      | none => rw [e1, e2] at z; exact z.elim
      | some v2 => rw [e1, e2] at z; exact z
  | _ => exact h1.elim
/-- x[k] -/
theorem ok_dix (hx : OkE L f x mx) (hk : OkE L f y my) : OkE L f (.Subscript x y pos) (sDix mx my) := by
  refine OkE.of ⟨fun _ _ => rfl, fun _ _ => rfl, fun _ => rfl, fun _ _ => rfl, fun _ _ _ _ h => nomatch h⟩ (fun W X c => ?_) fun _ _ => rfl
  refine PE.imp (pe_dget (by have := units_ok c; omega) (hx.p W X c) (hk.p W X c) hk.pl.ix) fun σ H Q ⟨κ, H0, s, g, e, r, h⟩ => ?_
  subst e
  refine ⟨κ, H0, s, g, rfl, r, h.bind fun x s1 g1 r1 st1 h1 u hu => ⟨κ, H0, s1, g1, rfl, r1, (h1.later st1).bind fun y2 s2 g2 r2 st2 h2 v hv => ?_⟩⟩
  obtain ⟨d, ed, h3⟩ := Fin.lb (o := (dAtO x y2).bind id) h2
  cases eo : dAtO x y2 with
  | none => rw [eo] at ed; cases ed
  | some o =>
    rw [eo] at ed
    have ed : o = some d := ed
    obtain ⟨l, ks, ds, n, rfl, en, e0⟩ := dAtO_some eo
    obtain ⟨a2, ws2, ea2, q2, ek2, t2⟩ := pk_dct (hu.step st2)
    obtain ⟨bb, ev, eb⟩ := key_tup r2 hv en
    have z := dct_val (k := n) ek2 t2
    rw [← e0, ed] at z
    cases e2 : valV ws2 (kI n) with
    | none => rw [e2] at z; exact z.elim
    | some v2 =>
      rw [e2] at z
      exact ⟨a2, v2, ea2, .inr ⟨ws2, kI n, bb, q2, ev, eb, e2.symm⟩, h3.ok r2 st2 _ z⟩
theorem din_val {s s' : St} {v : B} (h : (sDin mx my).b s = .ok v s') : ∃ k, v = .val (.bl k) := by
  obtain ⟨a, s1, _, h⟩ := R.bind_ok h
  obtain ⟨b, s2, _, h⟩ := R.bind_ok h
  obtain ⟨k, s3, _, h⟩ := R.bind_ok h
  cases h
  exact ⟨_, rfl⟩
theorem dnin_val {s s' : St} {v : B} (h : (sDnin mx my).b s = .ok v s') : ∃ k, v = .val (.bl k) := by
  obtain ⟨a, s1, _, h⟩ := R.bind_ok h
  obtain ⟨b, s2, _, h⟩ := R.bind_ok h
  obtain ⟨k, s3, _, h⟩ := R.bind_ok h
  cases h
  exact ⟨_, rfl⟩
theorem dct_some {Γ : Gam} {κ : Option Addr} {F : Hp} {n : List Int} {ks : List (List Int)} {ds : List D} {ws : List (List Key × V)} (e : ws.map Prod.fst = ks.map kI) (h : RpL Γ κ F (ws.map Prod.snd) ds) : (valV ws (kI n)).isSome = (dAt n ks ds).isSome := by
  have z := dct_val (k := n) e h
  cases e1 : dAt n ks ds with
  | none =>
    cases e2 : valV ws (kI n) with
    | none => rfl
    | some v => rw [e1, e2] at z; exact z.elim
  | some d =>
    cases e2 : valV ws (kI n) with
    | none => rw [e1, e2] at z; exact z.elim
    | some v => rfl
theorem din_imp {W : WX} : ∀ σ H Q, spB L.Γ W (sDin mx my).b σ H Q → tDIn (spP L.Γ W mx.p) (spP L.Γ W my.p) σ H Q := fun σ H Q ⟨κ, H0, s, g, e, r, h⟩ => by
  subst e
  refine ⟨κ, H0, s, g, rfl, r, h.bind fun y2 s1 g1 r1 st1 h1 u hu => ⟨κ, H0, s1, g1, rfl, r1, (h1.later st1).bind fun x2 s2 g2 r2 st2 h2 v hv => ?_⟩⟩
  obtain ⟨o, eo, h3⟩ := Fin.lb (o := dAtO x2 y2) h2
  obtain ⟨l, ks, ds, n, rfl, en, e0⟩ := dAtO_some eo
  obtain ⟨a2, ws2, ea2, q2, ek2, t2⟩ := pk_dct hv
  obtain ⟨bb, ev, eb⟩ := key_tup r2 (hu.step st2) en
  refine ⟨a2, _, ea2, .inr ⟨ws2, kI n, bb, q2, ev, eb, rfl⟩, ?_⟩
  rw [dct_some ek2 t2, ← e0]
  exact h3.ok r2 st2 _ (RB_bl _)
theorem dnin_imp {W : WX} : ∀ σ H Q, spB L.Γ W (sDnin mx my).b σ H Q → tDNotIn (spP L.Γ W mx.p) (spP L.Γ W my.p) σ H Q := fun σ H Q ⟨κ, H0, s, g, e, r, h⟩ => by
  subst e
  refine ⟨κ, H0, s, g, rfl, r, h.bind fun y2 s1 g1 r1 st1 h1 u hu => ⟨κ, H0, s1, g1, rfl, r1, (h1.later st1).bind fun x2 s2 g2 r2 st2 h2 v hv => ?_⟩⟩
  obtain ⟨o, eo, h3⟩ := Fin.lb (o := dAtO x2 y2) h2
  obtain ⟨l, ks, ds, n, rfl, en, e0⟩ := dAtO_some eo
  obtain ⟨a2, ws2, ea2, q2, ek2, t2⟩ := pk_dct hv
  obtain ⟨bb, ev, eb⟩ := key_tup r2 (hu.step st2) en
  refine ⟨a2, _, ea2, .inr ⟨ws2, kI n, bb, q2, ev, eb, rfl⟩, ?_⟩
  rw [dct_some ek2 t2, ← e0]
  exact h3.ok r2 st2 _ (RB_bl _)
/-- k in x, k not in x -/
theorem ok_din (hk : OkE L f x mx) (hx : OkE L f y my) : OkE L f (.Compare x [.In] [y] pos) (sDin mx my) := by
  have hb : ∀ W X, CxG L f W X → PE X (.Compare x [.In] [y] pos) (spB L.Γ W (sDin mx my).b) := fun W X c => PE.imp (pe_cmp (pc_din (by have := units_ok c; omega) (hk.p W X c) (hx.p W X c)) (hx.pl.bm _)) din_imp
  exact ⟨⟨fun _ _ => rfl, fun _ _ => rfl, fun _ => rfl, fun _ _ => rfl, fun _ _ _ _ h => nomatch h⟩, hb, fun W X c => p_of (hb W X c), fun W X c => PT.imp (pt_cmp (pc_din (by have := units_ok c; omega) (hk.p W X c) (hx.p W X c)) (hx.pl.bm _)) (test_imp (fun _ _ _ => din_val) din_imp)⟩
theorem ok_dnin (hk : OkE L f x mx) (hx : OkE L f y my) : OkE L f (.Compare x [.NotIn] [y] pos) (sDnin mx my) := by
  have hb : ∀ W X, CxG L f W X → PE X (.Compare x [.NotIn] [y] pos) (spB L.Γ W (sDnin mx my).b) := fun W X c => PE.imp (pe_cmp (pc_dnotin (by have := units_ok c; omega) (hk.p W X c) (hx.p W X c)) (hx.pl.bm _)) dnin_imp
  exact ⟨⟨fun _ _ => rfl, fun _ _ => rfl, fun _ => rfl, fun _ _ => rfl, fun _ _ _ _ h => nomatch h⟩, hb, fun W X c => p_of (hb W X c), fun W X c => PT.imp (pt_cmp (pc_dnotin (by have := units_ok c; omega) (hk.p W X c) (hx.p W X c)) (hx.pl.bm _)) (test_imp (fun _ _ _ => dnin_val) dnin_imp)⟩
end
end Ev

/-! dicts: statements -/
namespace Ev
open PySem PySem.Spec PyProof.Rows L2 EZ
section
variable {Γ : Gam} {κ : Option Addr} {H0 : Hp} {σ : L2.St} {s : St} {g : Gh}
/-- an object of one's own is changed, its slot with it -/
theorem Rel.setAt (r : Rel Γ κ H0 σ s g) {i : Nat} {t' : T} {a : Addr} {o : HO} {v : V} (hi : i < s.env.length) (hv : σ[i]? = some (some v)) (ho : g.ow i = [a]) (rt : RT Γ κ g.F (L2.upd g.H a o) v t' [a]) : Rel Γ κ H0 σ (setS s i t') ⟨g.F, L2.upd g.H a o, g.ow⟩ := by
  have fa := r.fr i a (by rw [ho]; simp)
  refine ⟨?_, fun j u h => ?_, fun j h => ?_, r.nd, r.dj, r.fr, fun b u h => ?_, r.cup.same (fun _ _ => rfl) fun b e => upd_ne fun z => fa.2 (z ▸ e), r.old, fun b h => ?_⟩
  · show (s.env.set i (some t')).length = σ.length
    rw [List.length_set]; exact r.len
  · rw [getS_set hi] at h
    by_cases e : j = i
    · subst e
      rw [if_pos rfl] at h
      cases h
      exact ⟨_, hv, by show RT Γ κ g.F (L2.upd g.H a o) v t' (g.ow j); rw [ho]; exact rt⟩
    · rw [if_neg e] at h
      obtain ⟨w, hw, q⟩ := r.slot j u h
      refine ⟨w, hw, RT.mono .rfl' (Sub.refl _) (fun b hb => upd_ne fun z => ?_) q⟩
      exact e (r.dj j i b hb (by rw [ho, z]; simp))
  · rw [getS_set hi] at h
    by_cases e : j = i
    · rw [if_pos e] at h; cases h
    · rw [if_neg e] at h; exact r.emp j h
  · show L2.upd g.H a o b = some u
    rw [upd_ne fun z => by rw [z, fa.1] at h; cases h]
    exact r.sub b u h
  · show L2.upd g.H a o b ≠ none
    by_cases e : b = a
    · rw [e, upd_same]; exact fun z => nomatch z
    · rw [upd_ne e]; exact r.grow b h
end
section
variable {Γ : Gam} {κ : Option Addr} {H0 : Hp} {σ : L2.St} {s : St} {g : Gh}
/-- a slot is forgotten -/
theorem Rel.forget (r : Rel Γ κ H0 σ s g) (i : Nat) : Rel Γ κ H0 σ { s with env := s.env.set i none } ⟨g.F, g.H, fun j => if j = i then [] else g.ow j⟩ := by
  have sub : ∀ {j a}, a ∈ (if j = i then [] else g.ow j) → a ∈ g.ow j ∧ j ≠ i := fun {j a} h => by
    by_cases e : j = i
    · rw [if_pos e] at h; cases h
    · rw [if_neg e] at h; exact ⟨h, e⟩
  refine ⟨?_, fun j u h => ?_, fun j h => ?_, fun j => ?_, fun j k a h1 h2 => r.dj j k a (sub h1).1 (sub h2).1, fun j a h => r.fr j a (sub h).1, r.sub, r.cup.same (fun _ _ => rfl) fun _ _ => rfl, fun j a h => r.old j a (sub h).1, r.grow⟩
  · show (s.env.set i none).length = σ.length
    rw [List.length_set]; exact r.len
  · rw [getS_clear] at h
    by_cases e : j = i
    · rw [if_pos e] at h; cases h
    · rw [if_neg e] at h
      obtain ⟨w, hw, q⟩ := r.slot j u h
      refine ⟨w, hw, ?_⟩
      show RT Γ κ g.F g.H w u (if j = i then [] else g.ow j)
      rw [if_neg e]; exact q
  · rw [getS_clear] at h
    show (if j = i then [] else g.ow j) = []
    by_cases e : j = i
    · rw [if_pos e]
    · rw [if_neg e]
      rw [if_neg e] at h
      exact r.emp j h
  · show (if j = i then [] else g.ow j).Nodup
    by_cases e : j = i
    · rw [if_pos e]; exact .nil
    · rw [if_neg e]; exact r.nd j
/-- a tuple that is there is frozen -/
theorem Rel.addT (r : Rel Γ κ H0 σ s g) {b : Addr} {xs : List V} (hb : g.H b = some (.tup xs)) : Rel Γ κ H0 σ s ⟨L2.upd g.F b (.tup xs), g.H, g.ow⟩ ∧ StepE κ g ⟨L2.upd g.F b (.tup xs), g.H, g.ow⟩ ∧ Sub g.F (L2.upd g.F b (.tup xs)) := by
  have nk : κ ≠ some b := fun e => by
    obtain ⟨_, x, y, _, z⟩ := r.κF e
    rw [hb] at z; cases z
  have no : ∀ i, b ∉ g.ow i := fun i hi => by
    cases q : getS s i with
    | none => rw [r.emp i q] at hi; cases hi
    | some t =>
      obtain ⟨_, _, rt⟩ := r.slot i t q
      exact ((rt.at_ b hi).t ⟨xs, hb⟩).elim
  have sb : Sub g.F (L2.upd g.F b (.tup xs)) := fun a o e => by
    by_cases z : a = b
    · subst z
      have := r.sub a o e
      rw [hb] at this
      rw [upd_same]; exact this
    · rw [upd_ne z]; exact e
  refine ⟨⟨r.len, fun i t h => ?_, r.emp, r.nd, r.dj, fun i a ha => ⟨?_, (r.fr i a ha).2⟩, fun a u e => ?_, r.cup.same (fun a e => ?_) fun _ _ => rfl, r.old, r.grow⟩, ⟨fun _ _ h _ => h, sb, fun a h => ?_, fun _ _ h => h, fun _ h => h⟩, sb⟩
  · obtain ⟨v, e, rt⟩ := r.slot i t h
    exact ⟨v, e, RT.mono .rfl' sb (fun _ _ => rfl) rt⟩
  · show L2.upd g.F b _ a = none
    rw [upd_ne fun z => no i (by rw [← z]; exact ha)]
    exact (r.fr i a ha).1
  · have e' : L2.upd g.F b (.tup xs) a = some u := e
    by_cases z : a = b
    · rw [z, upd_same] at e'
      rw [z]; exact hb.trans e'
    · rw [upd_ne z] at e'
      exact r.sub a u e'
  · show L2.upd g.F b _ a = g.F a
    rw [upd_ne fun z => nk (by rw [← z]; exact e)]
  · have h' : L2.upd g.F b (.tup xs) a ≠ none := h
    by_cases z : a = b
    · rw [z]; exact .inr (.inr (.inr ⟨nk, xs, hb⟩))
    · rw [upd_ne z] at h'; exact .inl h'
theorem keys_get {ks : List (List Int)} {ws : List (List Key × V)} {k : Nat} {kk : List Key} {vv : V} (e : ws.map Prod.fst = ks.map kI) (h : ws[k]? = some (kk, vv)) : ∃ n, ks[k]? = some n ∧ kk = kI n := by
  have h1 : (ws.map Prod.fst)[k]? = some kk := by rw [List.getElem?_map, h]; rfl
  rw [e, List.getElem?_map] at h1
  cases q : ks[k]? with
  | none => rw [q] at h1; cases h1
  | some n => rw [q] at h1; cases h1; exact ⟨n, rfl, rfl⟩
theorem Rel.looseOf (r : Rel Γ κ H0 σ s g) {i : Nat} {a : Addr} (ho : a ∈ g.ow i) : Loose κ (⟨g.F, g.H, fun j => if j = i then [] else g.ow j⟩ : Gh) a := ⟨(r.fr i a ho).1, fun j hj => by
  have hj : a ∈ (if j = i then [] else g.ow j) := hj
  by_cases e : j = i
  · rw [if_pos e] at hj; cases hj
  · rw [if_neg e] at hj; exact e (r.dj j i a hj ho), (r.fr i a ho).2⟩
end
section
variable {L : Law} {f : Frm} {pos : Pos}
/-- x[k] = e -/
theorem s_dput {i : Nat} {x : Str} {p p' : Pos} {k e : Expr} {mk me : Sm} (hN : f.N[i]? = some x) (hv : Vis f.sc x) (hd : (x == ("__debug__" : Str)) = false) (hcd : (x == ("__classdict__" : Str)) = false) (hk : OkE L f k mk) (he : OkE L f e me) (hs : ∀ env, env.scope = f.sc → swapsWith e (some (.Subscript (.Name x p) k p')) pos.line env = pure false) :
    OkS L f (.Assign [.Subscript (.Name x p) k p'] e pos) (fun s => (me.b s).out fun v s => (match getS s i with
    | some (.dct _ _) => (mk.p s).out fun y s => (match getS s i, key? y with
      | some (.dct ks vs), some n => if ks.length < big then .nx (setS s i (.dct (dPut n v.d ks vs).1 (dPut n v.d ks vs).2)) else .bad
      | _, _ => .bad)
    | _ => .bad)) := fun W X c => by
  refine PS.imp (ps_dput (by have := units_ok c; omega) (pe_var (i := i) (by rw [c.N]; exact hN) (by rw [c.sc]; exact hv) hd hcd) (hk.p W X c) (he.b W X c) (hs _ c.sc)) fun D σ H ⟨κ0, F0, H0, κ, s, g, e, r, bs, h⟩ => ?_
  subst e
  refine ⟨κ, H0, s, g, rfl, r, (h.out r bs).imp fun b s1 g1 r1 st1 h1 u hu => ?_⟩
  obtain ⟨g2, e2, r2, st2, p2⟩ := RB.frz' r1 st1 hu
  have b2 := bs.step r st2
  cases hs1 : getS s1 i with
  | none => simp only [hs1] at h1; exact h1.elim
  | some t =>
    simp only [hs1] at h1
    cases t with
    | dct ks0 ds0 =>
      obtain ⟨v1, hv1, _⟩ := r2.slot i _ hs1
      rw [← e2]
      refine ⟨v1, hv1, κ, H0, s1, g2, rfl, r2, (FinO.out (f := fun y s => (match getS s i, key? y with
        | some (.dct ks vs), some n => if ks.length < big then Out.nx (setS s i (.dct (dPut n b.d ks vs).1 (dPut n b.d ks vs).2)) else .bad
        | _, _ => .bad)) h1 r2 b2).imp fun y s3 g3 r3 st3 h3 w hw => ?_⟩
      have b3 := b2.step r2 st3
      have p3 := Rp.mono .rfl' st3.sub _ _ p2
      cases hs3 : getS s3 i with
      | none => simp only [hs3] at h3; exact h3.elim
      | some t3 =>
        cases t3 with
        | dct ks ds =>
          cases hky : key? y with
          | none => simp only [hs3, hky] at h3; exact h3.elim
          | some n =>
            simp only [hs3, hky] at h3
            by_cases hlen : ks.length < big
            · rw [if_pos hlen] at h3
              obtain ⟨v3, hv3, a, ws, ea, eo, q, ek, t⟩ := r3.slot i _ hs3
              rw [hv1] at hv3
              cases hv3
              obtain ⟨bb, ev, eb⟩ := key_tup r3 hw hky
              obtain ⟨k1, k2⟩ := dct_put (k := n) p3 ek t
              refine ⟨a, _, ea, .inr ⟨ws, kI n, bb, q, ev, eb, by rw [(dct_len ek t).1, ← big_eq]; exact hlen, rfl⟩, ?_⟩
              exact h3 κ σ _ (r3.setAt (getS_lt hs3) hv1 eo ⟨a, _, ea, rfl, upd_same, k1, k2⟩) (b3.setOwn (r3.old i a (by rw [eo]; simp)))
            · rw [if_neg hlen] at h3; exact h3.elim
        | _ => simp only [hs3] at h3; exact h3.elim
    | _ => exact h1.elim
/-- a dict is walked from here on -/
theorem ss_lock {i : Nat} {xs : List Stmt} {b : St → Out} (h : OkSs L f xs b) : OkSs L f xs (fun s => (match getS s i with
    | some (.dct ks vs) => Out.nx (setS s i (.leaf (.dct true ks vs)))
    | some (.leaf (.dct true _ _)) => .nx s
    | _ => .bad).then b) := fun W X c => ⟨fun pins s0 σ H D I hw => by
  obtain ⟨κ0, F0, H0, κ, s, g, e, r, bs, hf⟩ := hw
  subst e
  dsimp only at hf
  cases hs : getS s i with
  | none => rw [hs] at hf; exact hf.elim
  | some t =>
    rw [hs] at hf
    cases t with
    | dct ks ds =>
      obtain ⟨v, hv, a, ws, ea, eo, q, ek, t⟩ := r.slot i _ hs
      obtain ⟨od, I1⟩ := I.lock q trivial
      have hi := getS_lt hs
      have ha : a ∈ g.ow i := by rw [eo]; simp
      have h0 := r.old i a ha
      have r1 := r.forget i
      have l1 := r.looseOf ha
      have r2 := r1.updLoose l1 (.frz od (.dT ws))
      have l2 : Loose κ (⟨g.F, L2.upd g.H a (.frz od (.dT ws)), fun j => if j = i then [] else g.ow j⟩ : Gh) a := ⟨l1.1, l1.2.1, l1.2.2⟩
      obtain ⟨r3, _, sb⟩ := r2.frz (p := a) (o := .frz od (.dT ws)) upd_same l2
      have rp : Rp L.Γ κ (L2.upd g.F a (.frz od (.dT ws))) v (.dct true ks ds) := by
        unfold Rp
        exact ⟨a, ws, ea, ⟨od, upd_same⟩, ek, RpL.mono .rfl' sb ds _ t⟩
      have r4 := r3.setT (i := i) (t := .leaf (.dct true ks ds)) (v := v) (as := []) (by simpa using hi) ⟨rp, rfl⟩ .nil (fun a ha => by cases ha)
      have es : setS { s with env := s.env.set i none } i (.leaf (.dct true ks ds)) = setS s i (.leaf (.dct true ks ds)) := by
        unfold setS
        simp only [List.set_set]
      have eσ : σ.set i (some v) = σ := by
        apply List.ext_getElem?
        intro j
        by_cases e : j = i
        · subst e
          have hl : j < σ.length := (List.getElem?_eq_some_iff.mp hv).1
          rw [List.getElem?_set_self hl]; exact hv.symm
        · rw [List.getElem?_set_ne (Ne.symm e)]
      rw [es, eσ] at r4
      have hf : FinO L.Γ κ0 F0 H0 W (b (setS s i (.leaf (.dct true ks ds)))) D := hf
      refine (h W X c).run pins s0 σ _ D I1 ⟨κ0, F0, H0, κ, setS s i (.leaf (.dct true ks ds)), _, rfl, r4, ?_, hf⟩
      refine ⟨bs.kle, bs.kf, bs.sub.trans sb, fun x u q2 n => ?_, fun x hx => ?_⟩
      · show L2.upd g.H a _ x = some u
        rw [upd_ne fun z => by rw [z, h0] at q2; cases q2]
        exact bs.keep x u q2 n
      · have hx : L2.upd g.F a (.frz od (.dT ws)) x ≠ none := hx
        by_cases z : x = a
        · rw [z]; exact .inr (.inl h0)
        · rw [upd_ne z] at hx; exact bs.new x hx
    | leaf d =>
      cases d with
      | dct l ks ds =>
        cases l with
        | true => exact (h W X c).run pins s0 σ g.H D I ⟨κ0, F0, H0, κ, s, g, rfl, r, bs, hf⟩
        | false => exact hf.elim
      | _ => exact hf.elim
    | _ => exact hf.elim⟩
/-- a dict goes over to another slot -/
theorem s_move {i j : Nat} {x y : Str} {p p2 : Pos} (hNi : f.N[i]? = some x) (hxi : Loc f.sc x) (hfi : f.cf x = true ∨ f.sc.names.lookup x = some .local) (hNj : f.N[j]? = some y) (hv : Vis f.sc y) (hd : (y == ("__debug__" : Str)) = false) (hcd : (y == ("__classdict__" : Str)) = false) :
    OkS L f (.Assign [.Name x p] (.Name y p2) pos) (fun s => match getS s j with
    | some (.dct ks vs) => if i < s.env.length ∧ i ≠ j then .nx { s with env := (s.env.set j none).set i (some (.dct ks vs)) } else .bad
    | _ => .bad) := fun W X c => by
  refine PS.imp (ps_asg (pe_var (i := j) (by rw [c.N]; exact hNj) (by rw [c.sc]; exact hv) hd hcd) (pg_name (i := i) (by rw [c.N]; exact c.nd) (by rw [c.N]; exact hNi) (by rw [c.sc]; exact hxi) (by rw [c.fn, c.sc]; exact hfi)) rfl rfl rfl) fun D σ H ⟨κ0, F0, H0, κ, s, g, e, r, bs, h⟩ => ?_
  subst e
  dsimp only at h
  cases hs : getS s j with
  | none => rw [hs] at h; exact h.elim
  | some t =>
    rw [hs] at h
    cases t with
    | dct ks ds =>
      dsimp only at h
      by_cases hi : i < s.env.length ∧ i ≠ j
      · rw [if_pos hi] at h
        obtain ⟨v, hv, a, ws, ea, eo, q, ek, t⟩ := r.slot j _ hs
        have ha : a ∈ g.ow j := by rw [eo]; simp
        have r1 := r.forget j
        have l1 := r.looseOf ha
        have r2 := r1.setT (i := i) (t := .dct ks ds) (v := v) (as := [a]) (by simpa using hi.1) ⟨a, ws, ea, rfl, q, ek, t⟩ (by simp) (fun b hb => by
          rw [List.mem_singleton.mp hb]
          exact ⟨l1.1, fun k _ => l1.2.1 k, l1.2.2, r.old j a ha⟩)
        refine ⟨v, hv, ?_⟩
        have h : ∀ κ' σ' g', Rel L.Γ κ' H0 σ' { s with env := (s.env.set j none).set i (some (.dct ks ds)) } g' → Base κ0 F0 H0 κ' g' → D.nx σ' g'.H := h
        exact h κ _ (⟨g.F, g.H, fun k => if k = i then [a] else if k = j then [] else g.ow k⟩ : Gh) r2 ⟨bs.kle, bs.kf, bs.sub, bs.keep, bs.new⟩
      · rw [if_neg hi] at h; exact h.elim
    | _ => exact h.elim
/-- the keys, walked -/
theorem i_dkeys {tg : Expr} {i : Nat} {x : Str} (hN : f.N[i]? = some x) (hv : Vis f.sc x) (hd : (x == ("__debug__" : Str)) = false) (hcd : (x == ("__classdict__" : Str)) = false) : OkI L f tg (.Name x pos) (sDkeys i) := by
  refine ⟨fun _ _ => rfl, fun fz W X c => PI.imp (pi_keys (pe_var (i := i) (by rw [c.N]; exact hN) (by rw [c.sc]; exact hv) hd hcd)) fun σ H R ⟨κ, H0, s, g, e, r, q⟩ => ?_⟩
  subst e
  simp only [sDkeys, sIter] at q
  cases hs : getS s i with
  | none => rw [hs] at q; exact q.elim
  | some t =>
    rw [hs] at q
    cases t with
    | leaf d =>
      cases d with
      | dct l ks ds =>
        cases l with
        | false => exact q.elim
        | true =>
          obtain ⟨v, hv, rt⟩ := r.slot i _ hs
          have p := rt.1
          unfold Rp at p
          obtain ⟨a, ws, ea, ⟨o, qa⟩, ek, t⟩ := p
          refine ⟨v, hv, a, o, ea, .inr ⟨ws, r.sub a _ qa, ?_⟩⟩
          refine Fin.ok (s := s) q r (StepE.refl _ _) _ ⟨_, _, by rw [List.length_map, ← (dct_len ek t).1]; exact walk_keysT, fun g' l => l.in_ a _ (l.sub a _ qa), fun k d H x H' hdk y κ' H0 σ s g1 e1 kl r1 l => ?_⟩
          subst e1
          obtain ⟨e5, kk, vv, b, h1, rfl, h3⟩ := y
          obtain ⟨n, hn, rfl⟩ := keys_get ek h1
          rw [List.getElem?_map, hn] at hdk
          cases hdk
          obtain ⟨r2, st2, sb⟩ := r1.addT h3
          refine ⟨(⟨L2.upd g1.F b (.tup ((kI n).map kV)), g1.H, g1.ow⟩ : Gh), e5.symm, r2, st2, ?_⟩
          unfold keyD Rp
          exact ⟨b, (kI n).map kV, rfl, upd_same, by rw [kI_kV]; exact rpl_of_ints n⟩
      | _ => exact q.elim
    | _ => exact q.elim
end
end Ev

/-! for k, v in x.items(): a dict whose keys are tuples -/
namespace Ev
open PySem PySem.Spec PyProof.Rows L2 EZ
theorem frzT2 {X : Cx} {pins : List (Addr × Obj)} {σ : L2.St} {H : Hp} {s : Shared} {d : Addr} {o : Obj} {kvs : List (List Key × V)} (I : Inv X pins σ H s) (h : H d = some (.frz o (.dT kvs))) :
    (d == sysModules) = false ∧ s.heap.get? d = some o ∧ o.ExactDict ∧ ∃ (es : Array DictEntry) (ep : Nat), o.data = .dict es ep ∧ es.size = kvs.length ∧
      ∀ (i : Nat) (k : List Key) (v : V), kvs[i]? = some (k, v) → ∃ (en : DictEntry) (q : Addr), es[i]? = some en ∧ en.key = .ref q ∧ H q = some (.tup (k.map kV)) ∧ RelV v en.val := by
  obtain ⟨hd, z, hs, xs, pr, o', es, ep, ho, hx, hdt, he, _⟩ := I.hok d _ h
  rw [hd] at ho
  cases ho
  refine ⟨hs, hd, hx, es, ep, hdt, ?_, fun i k v e => ?_⟩
  · have l1 : es.size = xs.length := size_of_entries he
    have l2 : kvs.length = xs.length := Paired.length pr
    omega
  · obtain ⟨b, hb, e1, e2, e3⟩ := paired_get pr e
    have q := entry_at he i
    rw [hb] at q
    exact ⟨_, b.2.1, q, rfl, e2, e3⟩
/-- the pairs, each a new tuple -/
def ItT (d : Addr) (o : Obj) (kvs : List (List Key × V)) : It :=
  ⟨fun i H => H d = some (.frz o (.dT kvs)) ∧ i < kvs.length, fun i H x H' => ∃ T k v q, kvs[i]? = some (k, v) ∧ x = .ref T ∧ H T = none ∧ H q = some (.tup (k.map kV)) ∧ H' = L2.upd H T (.tup [.ref q, v]), fun i H => H d = some (.frz o (.dT kvs)) ∧ kvs.length ≤ i⟩
theorem turn_itemsT {P : Program} {w : World} {K : PySem.W.Frag} {d : Addr} {o : Obj} {es : Array DictEntry} {ep : Nat} {kvs : List (List Key × V)} {elts : List Expr} {kk : Nat} {tpos : Pos} (it : Addr) (hod : o.data = .dict es ep) :
    Turn P w K (.Tuple elts kk tpos) (ItT d o kvs) [it] it (fun i h => ∃ ok ov, IsItemIter h it d i kvs.length ep ok ov) where
  mem := by simp
  obj := fun i h st b hb => by
    have e : b = it := by simpa using hb
    subst e
    obtain ⟨ok, ov, e⟩ := st
    exact ⟨_, e, fun v z => nomatch z⟩
  keep := fun i h h' st k => let ⟨ok, ov, e⟩ := st; ⟨ok, ov, k it (by simp) _ e⟩
  item := by
    intro X hP hw hK hc i pins s σ H E I hf st hg
    subst hP hw hK
    obtain ⟨hd, hi⟩ := hg
    obtain ⟨hs, hgd, hx, es', ep', hdt, hsz, ent⟩ := frzT2 I hd
    obtain ⟨rfl, rfl⟩ := dict_ep hod hdt
    obtain ⟨⟨k, v⟩, hkv⟩ : ∃ p, kvs[i]? = some p := ⟨kvs[i], List.getElem?_eq_getElem hi⟩
    obtain ⟨en, q, hen, hkey, hq, rv⟩ := ent i k v hkv
    obtain ⟨ok, ov, he⟩ := st
    rw [← hsz] at he
    have hlt : it < s.heap.objs.size := Heap.lt_size he
    have hie : i < es'.size := by omega
    have hen' : es'[i] = en := by
      rw [Array.getElem?_eq_getElem hie] at hen
      exact Option.some.inj hen
    refine DT.nextI he ⟨o, hgd, hx, hdt⟩ hie fun h' ho hT hz hk => ?_
    rw [hen'] at hT ho
    refine ⟨_, rfl, wpAny_letOwnedTupleGo_items (s := { s with heap := h' }) ho fun h'' he' sb => ?_⟩
    have hT2 : h''.get? s.heap.objs.size = some { cls := .type "tuple", data := .seq #[en.key, en.val] } := (sb.2 _ (Nat.ne_of_gt hlt)).trans hT
    have new : ObjOk X.prog X.w (L2.upd H s.heap.objs.size (.tup [.ref q, v])) h'' s.heap.objs.size (.tup [.ref q, v]) :=
      ⟨by show 2 ≤ sizeLine; decide, [en.key, en.val], .cons (show RelV (.ref q) en.key from hkey) (.cons rv .nil), ⟨_, hT2, rfl, _, rfl⟩⟩
    have I1 : Inv X pins σ (L2.upd H s.heap.objs.size (.tup [.ref q, v])) { s with heap := h'' } :=
      I.turnedNew (t' := s.toks) (ch := [it]) (fun b ob hb e => (sb.2 b (by simpa using hb)).trans (hk b ob (by simpa using hb) e)) hf (Nat.le_refl _) new
    refine ⟨.ref s.heap.objs.size, _, I1, rfl, ⟨_, k, v, q, hkv, rfl, I.hok.fresh (Nat.le_refl _), hq, rfl⟩, ⟨en.key, en.val, ?_⟩, fun b hb => ?_⟩
    · rw [← hsz]; exact he'
    · have e : b = it := by simpa using hb
      rw [e, upd_ne (Nat.ne_of_lt hlt)]
      exact (hf it (by simp)).1
  done := by
    intro X hP hw hK hc i pins s σ H E I hf st hg
    subst hP hw hK
    obtain ⟨hd, hi⟩ := hg
    obtain ⟨f0, f1, f2, f3, f4, f5⟩ := hf it (by simp)
    obtain ⟨hs, hgd, hx, es', ep', hdt, hsz, ent⟩ := frzT2 I hd
    obtain ⟨rfl, rfl⟩ := dict_ep hod hdt
    obtain ⟨ok, ov, he⟩ := st
    rw [← hsz] at he
    exact DT.endI (I.ok.hd hc) he ⟨o, hgd, hx, hdt⟩ (by omega) fun h' eb => ⟨rfl, I.turned (t' := s.toks) (fun b ob hb e => eb b ob hb e) f0 f1 f3 f4 f5⟩
  self := fun A i s Q E st h => let ⟨_, _, e⟩ := st; PySem.W.kcp_self e h
def iItemsT (td : TE) : TI := fun σ H R => td σ H fun x H1 => ∃ d o kvs, x = .ref d ∧ H1 d = some (.frz o (.dT kvs)) ∧ R (ItT d o kvs) H1
theorem pi_itemsT {X : Cx} {e : Expr} {td : TE} {apos cpos : Pos} {elts : List Expr} {kk : Nat} {tpos : Pos} (he : PE X e td) (hbase : attributeBase e "items" X.env (eval e X.env) = eval e X.env := by rfl) (hline : (apos.endLine == cpos.line) = true := by rfl) :
    PI X (.Tuple elts kk tpos) (.Call (.Attribute e "items" apos) [] [] cpos) (iItemsT td) := by
  refine ⟨fun pins s σ H R I h => ?_⟩
  refine wpAny_Call_method (T := "dict") (id := "dict.items") hbase rfl hline PySem.F.plainAttrs_dict PySem.F.slot_dict_items PySem.F.type_dict_items (thn (he.run pins s σ H _ I h) fun u s1 ⟨x, H1, I1, rx, d, o, kvs, ex, hd, q⟩ => ?_)
  subst ex
  obtain rfl : u = Value.ref d := rx
  obtain ⟨hs, hgd, hx, es, ep, hdt, hsz, ent⟩ := frzT2 I1 hd
  have raw : DT.Raw s1.heap d es ep := ⟨o, hgd, hx, hdt⟩
  refine ⟨raw.typeIs, fun b q2 => by cases q2; exact ⟨o, hgd, hx.2.1⟩, ?_⟩
  have I2 : Inv X pins σ H1 { s1 with heap := s1.heap.push { cls := .type "dict_items", data := .fields #[.ref d] } } := I1.kept (t' := s1.toks) fun b ob q => Heap.get?_push_of_some _ q
  have fin : wpAny (model X.prog X.w) X.A (pyIter (.ref s1.heap.objs.size)) (PIE X pins σ (.Tuple elts kk tpos) R) X.xe { s1 with heap := s1.heap.push { cls := .type "dict_items", data := .fields #[.ref d] } } := by
    refine DT.iterI (d := d) ⟨_, Heap.get?_push_size _ rfl, rfl, rfl⟩ (raw.push _) (pi_one (tk := s1.toks) I2 _ (turn_itemsT _ hdt) ⟨.none, .none, ?_⟩ q)
    rw [← hsz]
    exact Heap.get?_push_size _ rfl
  show wpAny _ _ (callWith cpos (.builtin "dict.items") [.ref d] [] []) _ X.xe s1
  exact method_meetsIn PySem.F.slot_dict_items PySem.F.entry_dict_items rfl (PySem.evalArgs_none ⟨rfl, raw.typeIs, PySem.F.args_dict_items_1 _, _, DT.meetsItems (es := es) (ep := ep) hs, raw, fin⟩)
theorem walk_itemsT {d : Addr} {o : Obj} {kvs : List (List Key × V)} : Walk (ItT d o kvs) kvs.length (fun H => H d = some (.frz o (.dT kvs)))
    (fun i H x H' => ∃ T k v q, kvs[i]? = some (k, v) ∧ x = .ref T ∧ H T = none ∧ H q = some (.tup (k.map kV)) ∧ H' = L2.upd H T (.tup [.ref q, v])) :=
  ⟨fun _ _ hi q => ⟨q, hi⟩, fun _ q => ⟨q, Nat.le_refl _⟩, fun _ _ _ _ _ _ y => y⟩
theorem items_get {Γ : Gam} {κ : Option Addr} {F : Hp} : ∀ {ks : List (List Int)} {ds : List D} {ws : List (List Key × V)} {k : Nat} {kk : List Key} {vv : V}, ws.map Prod.fst = ks.map kI → RpL Γ κ F (ws.map Prod.snd) ds → ws[k]? = some (kk, vv) → ∃ n d, (List.zipWith (fun k v => D.tup [keyD k, v]) ks ds)[k]? = some (.tup [keyD n, d]) ∧ kk = kI n ∧ Rp Γ κ F vv d := by
  intro ks ds ws k kk vv e h hk
  obtain ⟨n, hn, e2⟩ := keys_get e hk
  have h1 : (ws.map Prod.snd)[k]? = some vv := by rw [List.getElem?_map, hk]; rfl
  have hl := dct_len e h
  have hkl : k < ws.length := (List.getElem?_eq_some_iff.mp hk).1
  have hd : ds[k]? = some ds[k] := List.getElem?_eq_getElem (by omega)
  obtain ⟨v, hv, p⟩ := h.get hd
  rw [h1] at hv
  cases hv
  exact ⟨n, ds[k], by rw [List.getElem?_zipWith, hn, hd], e2, p⟩
section
variable {L : Law} {f : Frm} {pos : Pos}
theorem i_ditems {i : Nat} {x : Str} {p ap cp tpos : Pos} {elts : List Expr} {kk : Nat} (hN : f.N[i]? = some x) (hv : Vis f.sc x) (hd : (x == ("__debug__" : Str)) = false) (hcd : (x == ("__classdict__" : Str)) = false) (hl : (ap.endLine == cp.line) = true) : OkI L f (.Tuple elts kk tpos) (.Call (.Attribute (.Name x p) "items" ap) [] [] cp) (sDitems i) := by
  refine ⟨fun _ _ => rfl, fun fz W X c => PI.imp (pi_itemsT (pe_var (i := i) (by rw [c.N]; exact hN) (by rw [c.sc]; exact hv) hd hcd) rfl hl) fun σ H R ⟨κ, H0, s, g, e, r, q⟩ => ?_⟩
  subst e
  simp only [sDitems, sIter] at q
  cases hs : getS s i with
  | none => rw [hs] at q; exact q.elim
  | some t =>
    rw [hs] at q
    cases t with
    | leaf d =>
      cases d with
      | dct l ks ds =>
        cases l with
        | false => exact q.elim
        | true =>
          obtain ⟨v, hv, rt⟩ := r.slot i _ hs
          have p := rt.1
          unfold Rp at p
          obtain ⟨a, ws, ea, ⟨o, qa⟩, ek, t⟩ := p
          refine ⟨v, hv, a, o, ws, ea, r.sub a _ qa, ?_⟩
          have hlen : (List.zipWith (fun k v => D.tup [keyD k, v]) ks ds).length = ws.length := by
            have := dct_len ek t
            rw [List.length_zipWith]; omega
          refine Fin.ok (s := s) q r (StepE.refl _ _) _ ⟨_, _, by rw [hlen]; exact walk_itemsT, fun g' l => l.in_ a _ (l.sub a _ qa), fun k d H x H' hdk y κ' H0 σ s g1 e1 kl r1 l => ?_⟩
          subst e1
          obtain ⟨T, kk, vv, b, h1, rfl, hT, h3, rfl⟩ := y
          obtain ⟨n, d2, hn, rfl, p2⟩ := items_get ek t h1
          rw [hn] at hdk
          cases hdk
          obtain ⟨r2, st2, sb⟩ := r1.addT h3
          have hT2 : (⟨L2.upd g1.F b (.tup ((kI n).map kV)), g1.H, g1.ow⟩ : Gh).H T = none := hT
          obtain ⟨r3, st3, sb3⟩ := r2.laidF hT2 (.tup [.ref b, vv])
          refine ⟨_, rfl, r3, st2.trans st3, ?_⟩
          unfold Rp
          refine ⟨T, [.ref b, vv], rfl, upd_same, .cons ?_ (.cons (Rp.mono .rfl' (sb.trans sb3) _ _ (Rp.mono kl l.sub _ _ p2)) .nil)⟩
          unfold keyD Rp
          exact ⟨b, (kI n).map kV, rfl, sb3 b _ upd_same, by rw [kI_kV]; exact rpl_of_ints n⟩
      | _ => exact q.elim
    | _ => exact q.elim
end
end Ev

/-! a def keeps what the evaluator says of it -/
namespace Ev
open PySem PySem.Spec PyProof.Rows L2
theorem getS_start {ns : Nat} {ds : List D} {c : Cup} {i : Nat} {t : T} (h : getS (startS ns ds c) i = some t) : ∃ d, ds[i]? = some d ∧ t = .leaf d := by
  unfold getS startS at h
  by_cases hi : i < ds.length
  · rw [List.getElem?_append_left (by simpa using hi), List.getElem?_map] at h
    cases q : ds[i]? with
    | none => rw [q] at h; cases h
    | some d => rw [q] at h; cases h; exact ⟨d, rfl, rfl⟩
  · rw [List.getElem?_append_right (by simpa using hi)] at h
    rw [List.getElem?_replicate] at h
    split at h <;> cases h
section
variable {L : Law} {P : Par} {tb : Nat → Option Df}
theorem fn_ok {i n : Nat} {x qual : Str} {params : Arguments} {body : List Stmt} {scope : Scope} {kws : List (Str × V)} {fa : Addr} {fd : FuncData} {N ps : List Str} {df : Df} (F : FunD L.Γ.K x qual params body scope [] kws fa fd) (S : FnScope N ps scope)
    (hb : OkSs L { n := n, N := N, sc := scope, cf := fun _ => true, top := true } body (execs P (callF tb P n) df.body)) (htb : tb i = some df) (hnp : df.np = ps.length) (hns : df.ns = N.length) :
    L2.FnOk L.P L.w L.Γ.K L.mg L.base (L2.CX L.P L.w) (n + 1) fa fd ps (spF L (callF tb P (n + 1)) i df.np) := by
  refine F.ok S (fun vs H Q E h => ?_) fun cdv A outer s₀ H vs Q E hr h => ?_
  · obtain ⟨κ, H0, σ, s, g, ds, _, _, q, l, _⟩ := h
    rw [q.length, l, hnp]
  · refine ⟨spS L.Γ (fun cls d _ H' => E cls d H') (execs P (callF tb P n) df.body), hb _ _ ?_, ?_⟩
    · exact { prog := rfl, w := rfl, K := rfl, mg := rfl, base := rfl, N := rfl, nd := S.nd, sc := rfl, fn := rfl, calm := rfl, room := hr, tk := takes_of (X := cxOf (L2.CX L.P L.w) L.P L.w L.Γ.K L.mg L.base N qual scope fa cdv A outer s₀ H E) rfl rfl rfl rfl, po := passes_of (X := cxOf (L2.CX L.P L.w) L.P L.w L.Γ.K L.mg L.base N qual scope fa cdv A outer s₀ H E) (K := fun e s'' => L2.CX L.P L.w outer H s₀ E e s'') rfl, top := fun _ => ⟨rfl, rfl⟩ }
    · obtain ⟨κ, H0, σ, s, g, ds, eH, r, q, l, hF⟩ := h
      subst eH
      have hns' : ps.length ≤ N.length := by have := congrArg List.length S.pre; rw [List.length_take] at this; omega
      have lds : ds.length = ps.length := by rw [l, hnp]
      have lvs : vs.length = ps.length := by rw [q.length, lds]
      have rel0 : Rel L.Γ κ g.H (L2.start N vs) (startS df.ns ds s.cup) ⟨g.F, g.H, fun _ => []⟩ := by
        refine ⟨?_, fun j t ht => ?_, fun _ _ => rfl, fun _ => .nil, fun _ _ _ h => (by cases h), fun _ _ h => (by cases h), r.sub, r.cup.same (fun _ _ => rfl) fun _ _ => rfl, fun _ _ h => (by cases h), fun _ h => h⟩
        · unfold startS L2.start
          simp only [List.length_append, List.length_map, List.length_replicate]
          omega
        · obtain ⟨d, hd, rfl⟩ := getS_start ht
          obtain ⟨v, hv, p⟩ := q.get hd
          refine ⟨v, ?_, p, rfl⟩
          have hi : j < vs.length := (List.getElem?_eq_some_iff.mp hv).1
          unfold L2.start
          rw [List.getElem?_append_left (by simpa using hi), List.getElem?_map, hv]
          rfl
      refine ⟨κ, g.F, g.H, κ, startS df.ns ds s.cup, ⟨g.F, g.H, fun _ => []⟩, rfl, rel0, ⟨.rfl', fun a h => .inl h, Sub.refl _, fun a o h _ => h, fun a h => .inl h⟩, ?_⟩
      have hc : callF tb P (n + 1) i ds s.cup = runB P (callF tb P n) df ds s.cup := by show (match tb i with | some d => _ | none => _) = _; rw [htb]
      rw [hc] at hF
      unfold runB at hF
      rw [if_pos l] at hF
      -- back at the caller
      have same : ∀ {κ' : Option Addr} {σ' : L2.St} {s' : St} {g1 : Gh}, s.cup.isSome = s'.cup.isSome → Rel L.Γ κ' g.H σ' s' g1 → Base κ g.F g.H κ' g1 → κ' = κ := fun {κ' σ' s' g1} hc r1 b => by
        have c0 := r.cup
        have c1 := r1.cup
        cases hκ : κ with
        | some a => exact b.kle a hκ
        | none =>
          rw [hκ] at c0
          cases hsc : s.cup with
          | some _ => rw [hsc] at c0; exact c0.elim
          | none =>
            rw [hsc] at hc
            cases hsc' : s'.cup with
            | some _ => rw [hsc'] at hc; cases hc
            | none =>
              rw [hsc'] at c1
              cases hκ' : κ' with
              | none => rfl
              | some _ => rw [hκ'] at c1; exact c1.elim
      have back : ∀ {σ' : L2.St} {s' : St} {g1 : Gh}, Rel L.Γ κ g.H σ' s' g1 → Base κ g.F g.H κ g1 → Rel L.Γ κ H0 σ { s with cup := s'.cup } ⟨g1.F, g1.H, g.ow⟩ ∧ StepE κ g ⟨g1.F, g1.H, g.ow⟩ := fun {σ' s' g1} r1 b => by
        refine ⟨⟨r.len, fun j t ht => ?_, r.emp, r.nd, r.dj, fun j a ha => ⟨?_, (r.fr j a ha).2⟩, r1.sub, r1.cup.same (fun _ _ => rfl) fun _ _ => rfl, r.old, fun a ha => r1.grow a (r.grow a ha)⟩, ⟨fun a o h n => b.keep a o h n, b.sub, fun a h => (b.new a h).elim .inl fun z => .inr (.inr z), fun _ _ h => h, fun a h => r1.grow a h⟩⟩
        · obtain ⟨v, hv, rt⟩ := r.slot j t ht
          refine ⟨v, hv, RT.mono .rfl' b.sub (fun a ha => ?_) rt⟩
          obtain ⟨ws, hw, _⟩ := rt.at_ a ha
          exact (b.keep a _ hw (r.fr j a ha).2).trans hw.symm
        · cases hq : g1.F a with
          | none => rfl
          | some o =>
            rcases b.new a (by rw [hq]; exact fun z => nomatch z) with z | z | ⟨_, z⟩
            · exact absurd (r.fr j a ha).1 z
            · exact absurd ha ((r.free z).2.1 j)
            · cases qs : getS s j with
              | none => rw [r.emp j qs] at ha; cases ha
              | some tq =>
                obtain ⟨_, _, rt⟩ := r.slot j tq qs
                exact ((rt.at_ a ha).t z).elim
      have rb : ∀ {g1 : Gh} {v : V} {b : B}, RB L.Γ κ g.H g1 v b → RB L.Γ κ g.H ⟨g1.F, g1.H, g.ow⟩ v b := fun {g1 v b} h => by
        cases b with
        | val d => exact h
        | new es =>
          obtain ⟨a, ws, ea, qa, ta, n0, lo⟩ := h
          exact ⟨a, ws, ea, qa, ta, n0, lo.1, (r.free n0).2.1, lo.2.2⟩
        | new2 es =>
          obtain ⟨a, as, ea, qa, ta, lo, nd⟩ := h
          exact ⟨a, as, ea, qa, ta, fun b hb => ⟨(lo b hb).1, (lo b hb).2.1, (r.free (lo b hb).1).2.1, (lo b hb).2.2.2⟩, nd⟩
        | newd ks es =>
          obtain ⟨a, ws, ea, qa, ek, ta, n0, lo⟩ := h
          exact ⟨a, ws, ea, qa, ek, ta, n0, lo.1, (r.free n0).2.1, lo.2.2⟩
      cases ho : execs P (callF tb P n) df.body (startS df.ns ds s.cup) with
      | nx s' =>
        rw [ho] at hF
        dsimp only at hF
        unfold kept at hF
        intro κ' σ' g1 r1 b
        by_cases hcup : s.cup.isSome = s'.cup.isSome
        · rw [if_pos hcup] at hF
          have e := same hcup r1 b
          subst e
          obtain ⟨r2, st2⟩ := back r1 b
          exact hF ⟨g1.F, g1.H, g.ow⟩ r2 st2 .non (show Rp L.Γ κ' g1.F .non .non from rp_non)
        · rw [if_neg hcup] at hF; exact hF.elim
      | rt bb s' =>
        rw [ho] at hF
        dsimp only at hF
        unfold kept at hF
        intro κ' σ' s'' g1 v ec r1 b hv
        by_cases hcup : s.cup.isSome = s'.cup.isSome
        · rw [if_pos hcup] at hF
          have e := same (by rw [hcup, ec]) r1 b
          subst e
          obtain ⟨r2, st2⟩ := back r1 b
          rw [ec] at r2
          exact hF ⟨g1.F, g1.H, g.ow⟩ r2 st2 v (rb hv)
        · rw [if_neg hcup] at hF; exact hF.elim
      | xc k s' =>
        rw [ho] at hF
        dsimp only at hF
        unfold kept at hF
        intro κ' σ' g1 r1 b
        by_cases hcup : s.cup.isSome = s'.cup.isSome
        · rw [if_pos hcup] at hF
          have e := same hcup r1 b
          subst e
          obtain ⟨r2, st2⟩ := back r1 b
          exact hF ⟨g1.F, g1.H, g.ow⟩ r2 st2
        · rw [if_neg hcup] at hF; exact hF.elim
      | bk s' => rw [ho] at hF; exact hF.elim
      | ct s' => rw [ho] at hF; exact hF.elim
      | bad => rw [ho] at hF; exact hF.elim
end
end Ev

/-! the check: a def's text is what the evaluator's term says -/
namespace Ev
open PySem PySem.Spec PyProof.Rows L2
structure Fs where
  N : List Str
  sc : Scope
  cf : Str → Bool
  top : Bool
def Fs.frm (f : Fs) (n : Nat) : Frm := ⟨n, f.N, f.sc, f.cf, f.top⟩
def Fs.blk (f : Fs) (scope : Scope) : Fs := ⟨f.N, relS scope f.sc, fun x => scope.names.lookup x == some .cell, false⟩
/-- what a name of the top is -/
inductive Gk where
  | fn (i np : Nat) | cls (k : Nat) | int (v : Int) | str (v : Str) | free
abbrev Gl := List (Str × Gk)
/-- .. and that it is so -/
def GkOk (L : Law) (n : Nat) (F : Fn) (x : Str) : Gk → Prop
  | .fn i np => CallOk L n F i np x
  | .cls k => RaiseOk L k x
  | .int v => ∃ u, L.mg x = some u ∧ RelV (.int v) u
  | .str v => ∃ u, L.mg x = some u ∧ RelV (.str v) u
  | .free => L.mg x = none
def GlOk (L : Law) (n : Nat) (F : Fn) (gl : Gl) : Prop := ∀ x k, gl.lookup x = some k → GkOk L n F x k
def isGl (f : Fs) (x : Str) : Bool := match f.sc.names.lookup x with
  | some .globalImplicit => true
  | _ => false
def visB (f : Fs) (x : Str) : Bool := match f.sc.names.lookup x with
  | some .local => true
  | some .cell => true
  | some .free => true
  | _ => false
def locB (f : Fs) (x : Str) : Bool := match f.sc.names.lookup x with
  | some .local => true
  | some .cell => f.cf x
  | _ => false
def isLocal (f : Fs) (x : Str) : Bool := match f.sc.names.lookup x with
  | some .local => true
  | _ => false
def nmOk (x : Str) : Bool := !(x == ("__debug__" : Str)) && !(x == ("__classdict__" : Str))
def slotB (f : Fs) (i : Nat) (x : Str) : Bool := decide (f.N[i]? = some x)
theorem isGl_ok {f : Fs} {x : Str} (h : isGl f x = true) : f.sc.names.lookup x = some .globalImplicit := by
  unfold isGl at h
  split at h
  · assumption
  · cases h
theorem visB_ok {f : Fs} {x : Str} (h : visB f x = true) : Vis f.sc x := by
  unfold visB at h
  split at h
  · exact .inl (by assumption)
  · exact .inr (.inl (by assumption))
  · exact .inr (.inr (by assumption))
  · cases h
theorem locB_ok {f : Fs} {x : Str} (h : locB f x = true) : Loc f.sc x ∧ (f.cf x = true ∨ f.sc.names.lookup x = some .local) := by
  unfold locB at h
  split at h
  · rename_i e; exact ⟨.inl e, .inr e⟩
  · rename_i e; exact ⟨.inr e, .inl h⟩
  · cases h
theorem isLocal_ok {f : Fs} {x : Str} (h : isLocal f x = true) : f.sc.names.lookup x = some .local := by
  unfold isLocal at h
  split at h
  · assumption
  · cases h
theorem nmOk_ok {x : Str} (h : nmOk x = true) : (x == ("__debug__" : Str)) = false ∧ (x == ("__classdict__" : Str)) = false := by
  unfold nmOk at h
  rw [Bool.and_eq_true, Bool.not_eq_true', Bool.not_eq_true'] at h
  exact h
/-- the checks of a term: as a value; walked (by a target); as a target of values; as a target of an assignment -/
structure Ck where
  e : Fs → Expr → Bool
  i : Fs → Expr → Expr → Bool
  g : Fs → Expr → Bool
  a : Fs → Expr → Bool
def Ck.of (e : Fs → Expr → Bool) : Ck := ⟨e, fun f _ x => e f x, fun _ _ => false, fun _ _ => false⟩
def Ck.it (i : Fs → Expr → Expr → Bool) : Ck := ⟨fun _ _ => false, i, fun _ _ => false, fun _ _ => false⟩
def cks : List Ck → Fs → List Expr → Bool
  | [], _, [] => true
  | k :: ks, f, x :: xs => k.e f x && cks ks f xs
  | _, _, _ => false
def ckgs : List Ck → Fs → List Expr → Bool
  | [], _, [] => true
  | k :: ks, f, x :: xs => k.g f x && ckgs ks f xs
  | _, _, _ => false
def ckas : List Ck → Fs → List Expr → Bool
  | [], _, [] => true
  | k :: ks, f, x :: xs => k.a f x && ckas ks f xs
  | _, _, _ => false
def kVar (i : Nat) : Ck where
  e := fun f x => match x with
    | .Name n _ => slotB f i n && (visB f n && nmOk n)
    | _ => false
  i := fun f _ x => match x with
    | .Name n _ => slotB f i n && (visB f n && nmOk n)
    | _ => false
  g := fun f x => match x with
    | .Name n _ => slotB f i n && locB f n
    | _ => false
  a := fun f x => match x with
    | .Name n _ => slotB f i n && locB f n
    | _ => false
def conB : D → Const → Bool
  | .int i, .int j => decide (i = j)
  | .str i, .str j => decide (i = j)
  | .bl i, .bool j => decide (i = j)
  | .non, .none => true
  | _, _ => false
def gconB : D → Option Gk → Bool
  | .int i, some (.int j) => decide (i = j)
  | .str i, some (.str j) => decide (i = j)
  | _, _ => false
def kCon (gl : Gl) (d : D) : Ck := .of fun f x => match x with
  | .Constant c _ _ => conB d c
  | .Name n _ => isGl f n && (nmOk n && gconB d (gl.lookup n))
  | _ => false
def kTup (ks : List Ck) : Ck where
  e := fun f x => match x with
    | .Tuple xs _ _ => cks ks f xs && decide (ks.length ≤ 1000)
    | _ => false
  i := fun f _ x => match x with
    | .Tuple xs _ _ => cks ks f xs && decide (ks.length ≤ 1000)
    | _ => false
  g := fun f x => match x with
    | .Tuple xs _ _ => ckgs ks f xs
    | _ => false
  a := fun f x => match x with
    | .Tuple xs _ _ => ckas ks f xs
    | _ => false
def kLst (ks : List Ck) : Ck := .of fun f x => match x with
  | .List xs _ => cks ks f xs && decide (ks.length ≤ 1000)
  | _ => false
def kBin (o : Op) (a b : Ck) : Ck := .of fun f x => match x with
  | .BinOp y p z _ => decide (p = opOf o) && (a.e f y && b.e f z)
  | _ => false
def kNeg (a : Ck) : Ck := .of fun f x => match x with
  | .UnaryOp .USub y _ => a.e f y
  | _ => false
def kNot (a : Ck) : Ck := .of fun f x => match x with
  | .UnaryOp .Not y _ => a.e f y
  | _ => false
def kBool (o : BoolOp) (a b : Ck) : Ck := .of fun f x => match x with
  | .BoolOp p [y, z] _ => decide (p = o) && (a.e f y && b.e f z)
  | .BoolOp p (y :: z :: w :: r) q => decide (p = o) && (a.e f y && b.e f (.BoolOp p (z :: w :: r) q))
  | _ => false
def kCmp (o : Cp) (a b : Ck) : Ck := .of fun f x => match x with
  | .Compare y [p] [z] _ => decide (p = cpOf o) && (a.e f y && b.e f z)
  | _ => false
def kChain (o q : Cp) (a b c : Ck) : Ck := .of fun f x => match x with
  | .Compare y [p, p'] [z, w] _ => decide (p = cpOf o) && (decide (p' = cpOf q) && (a.e f y && (b.e f z && c.e f w)))
  | _ => false
def kIfe (c a b : Ck) : Ck := .of fun f x => match x with
  | .IfExp t y z _ => c.e f t && (a.e f y && b.e f z)
  | _ => false
def isFn (k : Option Gk) (i n : Nat) : Bool := match k with
  | some (.fn j m) => decide (j = i) && decide (m = n)
  | _ => false
def isFree (k : Option Gk) : Bool := match k with
  | some .free => true
  | _ => false
def isCls (k : Option Gk) (i : Nat) : Bool := match k with
  | some (.cls j) => decide (j = i)
  | _ => false
def kCall (gl : Gl) (i : Nat) (ks : List Ck) : Ck := .of fun f x => match x with
  | .Call (.Name n _) xs [] _ => isFn (gl.lookup n) i ks.length && (isGl f n && cks ks f xs)
  | _ => false
def freeB (gl : Gl) (f : Fs) (n : Str) : Bool := isFree (gl.lookup n) && isGl f n
def kBi (gl : Gl) (b : Bi) (ks : List Ck) : Ck := .of fun f x => match x with
  | .Call (.Name n _) (y :: ys) [] _ => decide (b ≠ .sortedR) && (decide (b ≠ .bool) && (decide (n = biN b) && (freeB gl f n && cks ks f (y :: ys))))
  | .Call (.Name n _) [y] [⟨some m, .Constant (.bool true) _ _, _⟩] _ => decide (b = .sortedR) && (decide (n = ("sorted" : Str)) && (decide (m = ("reverse" : Str)) && (freeB gl f n && cks ks f [y])))
  | _ => false
def kIsi (gl : Gl) (t : Ty) (a : Ck) : Ck := .of fun f x => match x with
  | .Call (.Name n _) [y, .Name m _] [] _ => decide (n = ("isinstance" : Str)) && (decide (m = tyS t) && (freeB gl f n && (freeB gl f m && a.e f y)))
  | _ => false
/-- x[i], x[j][i] as targets -/
def kPut1 (k : Nat) (i : Ck) : Fs → Expr → Bool := fun f x => match x with
  | .Subscript (.Name n _) y _ => slotB f k n && (visB f n && (nmOk n && i.e f y))
  | _ => false
def kPut2 (k : Nat) (j i : Ck) : Fs → Expr → Bool := fun f x => match x with
  | .Subscript (.Subscript (.Name n _) z _) y _ => slotB f k n && (visB f n && (nmOk n && (j.e f z && i.e f y)))
  | _ => false
def kIx (a i : Ck) (pa : Fs → Expr → Bool) : Ck :=
  { Ck.of (fun f x => match x with
    | .Subscript y z _ => a.e f y && i.e f z
    | _ => false) with a := pa }
def partB (e : E) (k : Ck) : Fs → Option Expr → Bool := fun f x => match x with
  | none => (match e with | .con .non => true | _ => false)
  | some y => (match e with | .con .non => false | _ => k.e f y)
def kSl (a : Ck) (lo hi : Fs → Option Expr → Bool) : Ck := .of fun f x => match x with
  | .Subscript y (.Slice l h none _) _ => a.e f y && (lo f l && hi f h)
  | _ => false
def kRev (a : Ck) : Ck := .of fun f x => match x with
  | .Subscript y (.Slice none none (some (.UnaryOp .USub (.Constant (.int i) _ _) _)) _) _ => decide (i = 1) && a.e f y
  | _ => false
def ownOf (N : List Str) (vs : List Nat) : List (Str × Nat) := vs.filterMap fun v => (N[v]?).map fun n => (n, v)
/-- the slots of a target of names -/
def tvs : E → List Nat
  | .var i => [i]
  | .tup es => tvsL es
  | _ => []
where tvsL : List E → List Nat
  | [] => []
  | e :: es => tvs e ++ tvsL es
def isTrueC : E → Bool
  | .con (.bl true) => true
  | _ => false
def compB (vs : List Nat) (tv : List Nat) (g it c e : Ck) (ct : Bool) (f : Fs) (elt tg iter : Expr) (ifs : List Expr) (scope : Scope) : Bool :=
  decide ((ownOf f.N vs).map (·.2) = vs) && (blkC f.N f.sc scope (ownOf f.N vs) && (it.i f tg iter && (tv.all (fun v => vs.contains v) && (g.g (f.blk scope) tg && ((match ifs with
    | [] => ct
    | [y] => !ct && c.e (f.blk scope) y
    | _ => false) && e.e (f.blk scope) elt)))))
def kComp (vs tv : List Nat) (g it c e : Ck) (ct : Bool) : Ck := .of fun f x => match x with
  | .ListComp elt [⟨tg, iter, ifs, 0⟩] scope _ => compB vs tv g it c e ct f elt tg iter ifs scope
  | _ => false
def ifsB (ct : Bool) (c : Ck) (f : Fs) (ifs : List Expr) : Bool := match ifs with
  | [] => ct
  | [y] => !ct && c.e f y
  | _ => false
def comp2B (vs vs1 tv tv1 : List Nat) (g it c g1 it1 c1 e : Ck) (ct ct1 : Bool) (f : Fs) (x : Expr) : Bool := match x with
  | .ListComp elt [⟨tg, iter, ifs, 0⟩, ⟨tg1, iter1, ifs1, 0⟩] scope _ =>
    (decide ((ownOf f.N vs).map (·.2) = vs) && (blkC f.N f.sc scope (ownOf f.N vs) && (it.i f tg iter && (tv.all (fun v => vs.contains v) && g.g (f.blk scope) tg)))) &&
    ((ifsB ct c (f.blk scope) ifs && (it1.i (f.blk scope) tg1 iter1 && (tv1.all (fun v => vs1.contains v) && (g1.g (f.blk scope) tg1 && ifsB ct1 c1 (f.blk scope) ifs1)))) &&
    (e.e (f.blk scope) elt && vs1.all (fun v => vs.contains v)))
  | _ => false
def kComp2 (vs vs1 tv tv1 : List Nat) (g it c g1 it1 c1 e : Ck) (ct ct1 : Bool) : Ck := .of fun f x => comp2B vs vs1 tv tv1 g it c g1 it1 c1 e ct ct1 f x
def kRng (gl : Gl) (a : Ck) : Ck := .it fun f _ x => match x with
  | .Call (.Name n _) [y] [] _ => decide (n = ("range" : Str)) && (freeB gl f n && a.e f y)
  | _ => false
def kRng2 (gl : Gl) (a b : Ck) : Ck := .it fun f _ x => match x with
  | .Call (.Name n _) [y, z] [] _ => decide (n = ("range" : Str)) && (freeB gl f n && (a.e f y && b.e f z))
  | _ => false
def kNo : Ck := .it fun _ _ _ => false
def kZip (gl : Gl) (ks : List Ck) : Ck := .it fun f _ x => match x with
  | .Call (.Name n _) (y :: ys) [] _ => decide (n = ("zip" : Str)) && (freeB gl f n && (cks ks f (y :: ys) && decide (ks.length ≤ 1000)))
  | _ => false
def kZipS (gl : Gl) (a : Ck) : Ck := .it fun f _ x => match x with
  | .Call (.Name n _) [.Starred y _] [] _ => decide (n = ("zip" : Str)) && (freeB gl f n && a.e f y)
  | _ => false
def kEnum (gl : Gl) (a : Ck) : Ck := .it fun f tg x => match tg, x with
  | .Tuple _ _ _, .Call (.Name n _) [y] [] _ => decide (n = ("enumerate" : Str)) && (freeB gl f n && a.e f y)
  | _, _ => false
def kDnew : Ck := .of fun _ x => match x with
  | .Dict [] [] _ => true
  | _ => false
def kDnew1 (a b : Ck) : Ck := .of fun f x => match x with
  | .Dict [some y] [z] _ => a.e f y && b.e f z
  | _ => false
def kDget (a b c : Ck) : Ck := .of fun f x => match x with
  | .Call (.Attribute (.Name n np) m ap) [y, z] [] cp => decide (m = ("get" : Str)) && ((ap.endLine == cp.line) && (a.e f (.Name n np) && (b.e f y && c.e f z)))
  | _ => false
def kDix (a b : Ck) : Ck := .of fun f x => match x with
  | .Subscript y z _ => a.e f y && b.e f z
  | _ => false
def kDin (o : CmpOp) (a b : Ck) : Ck := .of fun f x => match x with
  | .Compare y [p] [z] _ => (p == o) && (a.e f y && b.e f z)
  | _ => false
def kDkeys (i : Nat) : Ck := .it fun f _ x => match x with
  | .Name n _ => slotB f i n && (visB f n && nmOk n)
  | _ => false
def kDitems (i : Nat) : Ck := .it fun f tg x => match tg, x with
  | .Tuple _ _ _, .Call (.Attribute (.Name n _) m ap) [] [] cp => decide (m = ("items" : Str)) && (slotB f i n && (visB f n && (nmOk n && (ap.endLine == cp.line))))
  | _, _ => false
mutual
def ck (gl : Gl) : E → Ck
  | .var i => kVar i
  | .con d => kCon gl d
  | .tup es => kTup (ckl gl es)
  | .lst es => kLst (ckl gl es)
  | .bin o a b => kBin o (ck gl a) (ck gl b)
  | .neg a => kNeg (ck gl a)
  | .not a => kNot (ck gl a)
  | .and a b => kBool .And (ck gl a) (ck gl b)
  | .or a b => kBool .Or (ck gl a) (ck gl b)
  | .cmp o a b => kCmp o (ck gl a) (ck gl b)
  | .chain o p a b c => kChain o p (ck gl a) (ck gl b) (ck gl c)
  | .ife c a b => kIfe (ck gl c) (ck gl a) (ck gl b)
  | .call f es => kCall gl f (ckl gl es)
  | .bi f es => kBi gl f (ckl gl es)
  | .isi t a => kIsi gl t (ck gl a)
  | .ix a i => kIx (ck gl a) (ck gl i) (match a with
    | .var k => kPut1 k (ck gl i)
    | .ix (.var k) j => kPut2 k (ck gl j) (ck gl i)
    | _ => fun _ _ => false)
  | .sl a l h => kSl (ck gl a) (partB l (ck gl l)) (partB h (ck gl h))
  | .rev a => kRev (ck gl a)
  | .comp vs g it c e => kComp vs (tvs g) (ck gl g) (ck gl it) (ck gl c) (ck gl e) (isTrueC c)
  | .comp2 vs vs1 g it c g1 it1 c1 e => kComp2 vs vs1 (tvs g) (tvs g1) (ck gl g) (ck gl it) (ck gl c) (ck gl g1) (ck gl it1) (ck gl c1) (ck gl e) (isTrueC c) (isTrueC c1)
  | .rng a => kRng gl (ck gl a)
  | .rng2 a b => kRng2 gl (ck gl a) (ck gl b)
  | .zip es => kZip gl (ckl gl es)
  | .zipS a => kZipS gl (ck gl a)
  | .enum a => kEnum gl (ck gl a)
  | .dnew => kDnew
  | .dnew1 k v => kDnew1 (ck gl k) (ck gl v)
  | .dget a k d => kDget (ck gl a) (ck gl k) (ck gl d)
  | .dix a k => kDix (ck gl a) (ck gl k)
  | .din k a => kDin .In (ck gl k) (ck gl a)
  | .dnin k a => kDin .NotIn (ck gl k) (ck gl a)
  | .dkeys i => kDkeys i
  | .ditems i => kDitems i
def ckl (gl : Gl) : List E → List Ck
  | [] => []
  | e :: es => ck gl e :: ckl gl es
end

/-! ### it is sound -/
/-- what a check tells -/
structure CkOk (L : Law) (n : Nat) (k : Ck) (m : Sm) (tv : List Nat) : Prop where
  e : ∀ f x, k.e f x = true → OkE L (f.frm n) x m
  bs : ∀ f op xs pos, k.e f (.BoolOp op xs pos) = true → OkBs L (f.frm n) op xs m
  i : ∀ f tg x, k.i f tg x = true → OkI L (f.frm n) tg x m
  g : ∀ f x, k.g f x = true → OkG L (f.frm n) x m tv
  a : ∀ f x, k.a f x = true → OkA L (f.frm n) x m
section
variable {L : Law} {n : Nat} {F : Fn} {gl : Gl}
theorem OkI.with {f : Frm} {tg x : Expr} {m m' : Sm} (h : OkI L f tg x m) (e : m'.i = m.i) : OkI L f tg x m' := ⟨h.fs, fun fz W X c => by rw [e]; exact h.i fz W X c⟩
theorem OkE.it {f : Frm} {tg x : Expr} {m : Sm} (h : OkE L f x m) (e : m.i = (Sm.of m.b).i) : OkI L f tg x m := OkI.with (i_of h.pl h.b) e
theorem ofE {e : Fs → Expr → Bool} {m : Sm} {tv : List Nat} (h : ∀ f x, e f x = true → OkE L (f.frm n) x m) (hi : m.i = (Sm.of m.b).i) (hbs : ∀ f op xs pos, e f (.BoolOp op xs pos) = true → OkBs L (f.frm n) op xs m) : CkOk L n (Ck.of e) m tv :=
  ⟨h, hbs, fun f tg x hx => (h f x hx).it hi, fun _ _ h => (nomatch h), fun _ _ h => nomatch h⟩
theorem ba {a b : Bool} (h : (a && b) = true) : a = true ∧ b = true := by rwa [Bool.and_eq_true] at h
theorem ba3 {a b c : Bool} (h : (a && (b && c)) = true) : a = true ∧ b = true ∧ c = true := ⟨(ba h).1, ba (ba h).2⟩
theorem ba4 {a b c d : Bool} (h : (a && (b && (c && d))) = true) : a = true ∧ b = true ∧ c = true ∧ d = true := ⟨(ba h).1, ba3 (ba h).2⟩
theorem ba5 {a b c d e : Bool} (h : (a && (b && (c && (d && e)))) = true) : a = true ∧ b = true ∧ c = true ∧ d = true ∧ e = true := ⟨(ba h).1, ba4 (ba h).2⟩
theorem k_var (i : Nat) : CkOk L n (kVar i) (sVar i) [i] := by
  refine ⟨fun f x h => ?_, fun f op xs pos h => (nomatch h), fun f tg x h => ?_, fun f x h => ?_, fun f x h => ?_⟩
  · cases x with
    | Name m p =>
      obtain ⟨h1, h2, h3⟩ := ba3 h
      exact ok_var (f := f.frm n) (of_decide_eq_true h1) (visB_ok h2) (nmOk_ok h3).1 (nmOk_ok h3).2
    | _ => cases h
  · cases x with
    | Name m p =>
      obtain ⟨h1, h2, h3⟩ := ba3 h
      exact i_var (f := f.frm n) (of_decide_eq_true h1) (visB_ok h2) (nmOk_ok h3).1 (nmOk_ok h3).2
    | _ => cases h
  · cases x with
    | Name m p =>
      obtain ⟨h1, h2⟩ := ba h
      exact g_var (f := f.frm n) (of_decide_eq_true h1) (locB_ok h2).1 (locB_ok h2).2
    | _ => cases h
  · cases x with
    | Name m p =>
      obtain ⟨h1, h2⟩ := ba h
      exact a_var (f := f.frm n) (of_decide_eq_true h1) (locB_ok h2).1 (locB_ok h2).2
    | _ => cases h
theorem k_con (G : GlOk L n F gl) (d : D) {tv : List Nat} : CkOk L n (kCon gl d) (sCon d) tv := by
  refine ofE (fun f x h => ?_) rfl fun f op xs pos h => nomatch h
  cases x with
  | Constant c j p =>
    have h : conB d c = true := h
    cases d with
    | int i => cases c with
      | int k => rw [of_decide_eq_true (show decide (i = k) = true from h)]; exact ok_int
      | _ => cases h
    | str i => cases c with
      | str k => rw [of_decide_eq_true (show decide (i = k) = true from h)]; exact ok_str
      | _ => cases h
    | bl i => cases c with
      | bool k => rw [of_decide_eq_true (show decide (i = k) = true from h)]; exact ok_bl
      | _ => cases h
    | non => cases c with
      | none => exact ok_non
      | _ => cases h
    | _ => cases c <;> cases h
  | Name m p =>
    obtain ⟨h1, h2, h3⟩ := ba3 h
    cases q : gl.lookup m with
    | none => rw [q] at h3; cases d <;> cases h3
    | some k =>
      rw [q] at h3
      have g := G m k q
      cases d with
      | int i => cases k with
        | int v =>
          obtain rfl := of_decide_eq_true (show decide (i = v) = true from h3)
          obtain ⟨u, e, r⟩ := g
          exact ok_glob (f := f.frm n) (isGl_ok h1) e r (nmOk_ok h2).1 fun _ _ => rp_int _
        | _ => cases h3
      | str i => cases k with
        | str v =>
          obtain rfl := of_decide_eq_true (show decide (i = v) = true from h3)
          obtain ⟨u, e, r⟩ := g
          exact ok_glob (f := f.frm n) (isGl_ok h1) e r (nmOk_ok h2).1 fun _ _ => rp_str _
        | _ => cases h3
      | _ => cases k <;> cases h3
  | _ => cases h
/-- several checks -/
inductive CksOk (L : Law) (n : Nat) : List Ck → List Sm → List (List Nat) → Prop where
  | nil : CksOk L n [] [] []
  | cons {k : Ck} {m : Sm} {tv : List Nat} {ks : List Ck} {ms : List Sm} {tvs : List (List Nat)} (h : CkOk L n k m tv) (t : CksOk L n ks ms tvs) : CksOk L n (k :: ks) (m :: ms) (tv :: tvs)
theorem CksOk.es : ∀ {ks : List Ck} {ms : List Sm} {tvs : List (List Nat)}, CksOk L n ks ms tvs → ∀ f xs, cks ks f xs = true → OkEs L (f.frm n) xs ms
  | _, _, _, .nil, f, [], h => .nil
  | _, _, _, .nil, f, _ :: _, h => nomatch h
  | _, _, _, .cons _ _, f, [], h => nomatch h
  | _, _, _, .cons k t, f, x :: xs, h => .cons (k.e f x (ba h).1) (t.es f xs (ba h).2)
theorem CksOk.gs : ∀ {ks : List Ck} {ms : List Sm} {tvs : List (List Nat)}, CksOk L n ks ms tvs → ∀ f xs, ckgs ks f xs = true → OkGs L (f.frm n) xs ms tvs.flatten
  | _, _, _, .nil, f, [], h => .nil
  | _, _, _, .nil, f, _ :: _, h => nomatch h
  | _, _, _, .cons _ _, f, [], h => nomatch h
  | _, _, _, .cons k t, f, x :: xs, h => by rw [List.flatten_cons]; exact .cons (k.g f x (ba h).1) (t.gs f xs (ba h).2)
theorem CksOk.as : ∀ {ks : List Ck} {ms : List Sm} {tvs : List (List Nat)}, CksOk L n ks ms tvs → ∀ f xs, ckas ks f xs = true → OkAs L (f.frm n) xs ms
  | _, _, _, .nil, f, [], h => .nil
  | _, _, _, .nil, f, _ :: _, h => nomatch h
  | _, _, _, .cons _ _, f, [], h => nomatch h
  | _, _, _, .cons k t, f, x :: xs, h => .cons (k.a f x (ba h).1) (t.as f xs (ba h).2)
theorem CksOk.length : ∀ {ks : List Ck} {ms : List Sm} {tvs : List (List Nat)}, CksOk L n ks ms tvs → ks.length = ms.length
  | _, _, _, .nil => rfl
  | _, _, _, .cons _ t => by rw [List.length_cons, List.length_cons, t.length]
theorem k_tup {ks : List Ck} {ms : List Sm} {tvs : List (List Nat)} (h : CksOk L n ks ms tvs) : CkOk L n (kTup ks) (sTup ms) tvs.flatten := by
  have he : ∀ f x, (kTup ks).e f x = true → OkE L (f.frm n) x (sTup ms) := fun f x hx => by
    cases x with
    | Tuple xs k p =>
      obtain ⟨h1, h2⟩ := ba hx
      have := ok_tup (pos := p) (k := k) (h.es f xs h1) (by rw [← h.length]; exact of_decide_eq_true h2)
      exact ⟨this.pl, this.b, this.p, this.t⟩
    | _ => cases hx
  refine ⟨he, fun f op xs pos h => (nomatch h), fun f tg x hx => (he f x hx).it rfl, fun f x hx => ?_, fun f x hx => ?_⟩
  · cases x with
    | Tuple xs k p => exact g_tup (h.gs f xs hx)
    | _ => cases hx
  · cases x with
    | Tuple xs k p => exact a_tup (h.as f xs hx) _ rfl
    | _ => cases hx
theorem k_lst {ks : List Ck} {ms : List Sm} {tvs : List (List Nat)} (h : CksOk L n ks ms tvs) {tv : List Nat} : CkOk L n (kLst ks) (sLst ms) tv := by
  refine ofE (fun f x hx => ?_) rfl fun f op xs pos h => nomatch h
  cases x with
  | List xs p => exact ok_lst (h.es f xs (ba hx).1) (by rw [← h.length]; exact of_decide_eq_true (ba hx).2)
  | _ => cases hx
variable {a b c : Ck} {ma mb mc : Sm} {ta tb' tc tv : List Nat}
theorem k_bin {o : Op} (ha : CkOk L n a ma ta) (hb : CkOk L n b mb tb') : CkOk L n (kBin o a b) (sBin o ma mb) tv := by
  refine ofE (fun f x hx => ?_) rfl fun f op xs pos h => nomatch h
  cases x with
  | BinOp y p z q =>
    obtain ⟨h1, h2⟩ := ba hx
    obtain rfl := of_decide_eq_true h1
    exact ok_bin (ha.e f y (ba h2).1) (hb.e f z (ba h2).2)
  | _ => cases hx
theorem k_neg (ha : CkOk L n a ma ta) : CkOk L n (kNeg a) (sNeg ma) tv := by
  refine ofE (fun f x hx => ?_) rfl fun f op xs pos h => nomatch h
  cases x with
  | UnaryOp o y p => cases o with
    | USub => exact ok_neg (ha.e f y hx)
    | _ => cases hx
  | _ => cases hx
theorem k_not (ha : CkOk L n a ma ta) : CkOk L n (kNot a) (sNot ma) tv := by
  refine ofE (fun f x hx => ?_) rfl fun f op xs pos h => nomatch h
  cases x with
  | UnaryOp o y p => cases o with
    | Not => exact ok_not (ha.e f y hx)
    | _ => cases hx
  | _ => cases hx
theorem k_and (ha : CkOk L n a ma ta) (hb : CkOk L n b mb tb') : CkOk L n (kBool .And a b) (sAnd ma mb) tv := by
  have hbs : ∀ f op xs pos, (kBool .And a b).e f (.BoolOp op xs pos) = true → op = .And ∧ OkBs L (f.frm n) .And xs (sAnd ma mb) := fun f op xs pos hx => by
    match xs, hx with
    | [y, z], hx =>
      obtain ⟨h1, h2⟩ := ba hx
      obtain rfl := of_decide_eq_true h1
      exact ⟨rfl, bs_and (ha.e f y (ba h2).1) (bs_and1 (hb.e f z (ba h2).2))⟩
    | y :: z :: w :: r, hx =>
      obtain ⟨h1, h2⟩ := ba hx
      obtain rfl := of_decide_eq_true h1
      exact ⟨rfl, bs_and (ha.e f y (ba h2).1) (hb.bs f _ _ _ (ba h2).2)⟩
  refine ofE (fun f x hx => ?_) rfl fun f op xs pos hx => ?_
  · cases x with
    | BoolOp op xs p => obtain ⟨rfl, h⟩ := hbs f op xs p hx; exact h.ok rfl
    | _ => cases hx
  · obtain ⟨rfl, h⟩ := hbs f op xs pos hx; exact h
theorem k_or (ha : CkOk L n a ma ta) (hb : CkOk L n b mb tb') : CkOk L n (kBool .Or a b) (sOr ma mb) tv := by
  have hbs : ∀ f op xs pos, (kBool .Or a b).e f (.BoolOp op xs pos) = true → op = .Or ∧ OkBs L (f.frm n) .Or xs (sOr ma mb) := fun f op xs pos hx => by
    match xs, hx with
    | [y, z], hx =>
      obtain ⟨h1, h2⟩ := ba hx
      obtain rfl := of_decide_eq_true h1
      exact ⟨rfl, bs_or (ha.e f y (ba h2).1) (bs_or1 (hb.e f z (ba h2).2))⟩
    | y :: z :: w :: r, hx =>
      obtain ⟨h1, h2⟩ := ba hx
      obtain rfl := of_decide_eq_true h1
      exact ⟨rfl, bs_or (ha.e f y (ba h2).1) (hb.bs f _ _ _ (ba h2).2)⟩
  refine ofE (fun f x hx => ?_) rfl fun f op xs pos hx => ?_
  · cases x with
    | BoolOp op xs p => obtain ⟨rfl, h⟩ := hbs f op xs p hx; exact h.ok rfl
    | _ => cases hx
  · obtain ⟨rfl, h⟩ := hbs f op xs pos hx; exact h
theorem k_cmp {o : Cp} (ha : CkOk L n a ma ta) (hb : CkOk L n b mb tb') : CkOk L n (kCmp o a b) (sCmp o ma mb) tv := by
  refine ofE (fun f x hx => ?_) rfl fun f op xs pos h => nomatch h
  match x, hx with
  | .Compare y [p] [z] q, hx =>
    obtain ⟨h1, h2⟩ := ba hx
    obtain rfl := of_decide_eq_true h1
    exact ok_cmp (ha.e f y (ba h2).1) (hb.e f z (ba h2).2)
theorem k_chain {o q : Cp} (ha : CkOk L n a ma ta) (hb : CkOk L n b mb tb') (hc : CkOk L n c mc tc) : CkOk L n (kChain o q a b c) (sChain o q ma mb mc) tv := by
  refine ofE (fun f x hx => ?_) rfl fun f op xs pos h => nomatch h
  match x, hx with
  | .Compare y [p, p'] [z, w] _, hx =>
    obtain ⟨h1, h2, h3, h4⟩ := ba4 hx
    obtain rfl := of_decide_eq_true h1
    obtain rfl := of_decide_eq_true h2
    exact ok_chain (ha.e f y h3) (hb.e f z (ba h4).1) (hc.e f w (ba h4).2)
theorem k_ife (hc : CkOk L n c mc tc) (ha : CkOk L n a ma ta) (hb : CkOk L n b mb tb') : CkOk L n (kIfe c a b) (sIfe mc ma mb) tv := by
  refine ofE (fun f x hx => ?_) rfl fun f op xs pos h => nomatch h
  cases x with
  | IfExp t y z p => exact ok_ife (hc.e f t (ba hx).1) (ha.e f y (ba (ba hx).2).1) (hb.e f z (ba (ba hx).2).2)
  | _ => cases hx
theorem freeB_ok (G : GlOk L n F gl) {f : Fs} {x : Str} (h : freeB gl f x = true) : f.sc.names.lookup x = some .globalImplicit ∧ L.mg x = none := by
  obtain ⟨h1, h2⟩ := ba h
  refine ⟨isGl_ok h2, ?_⟩
  cases q : gl.lookup x with
  | none => rw [q] at h1; cases h1
  | some k =>
    rw [q] at h1
    cases k with
    | free => exact G x _ q
    | _ => cases h1
theorem k_call (G : GlOk L n F gl) {i : Nat} {ks : List Ck} {ms : List Sm} {tvs : List (List Nat)} (h : CksOk L n ks ms tvs) : CkOk L n (kCall gl i ks) (sCall F i ms) tv := by
  refine ofE (fun f x hx => ?_) rfl fun f op xs pos h => nomatch h
  match x, hx with
  | .Call (.Name m p) xs [] q, hx =>
    obtain ⟨h1, h2, h3⟩ := ba3 hx
    have es := h.es f xs h3
    cases e : gl.lookup m with
    | none => rw [e] at h1; cases h1
    | some k =>
      rw [e] at h1
      cases k with
      | fn j np =>
        obtain ⟨h4, h5⟩ := ba (show (decide (j = i) && decide (np = ks.length)) = true from h1)
        obtain rfl := of_decide_eq_true h4
        obtain rfl := of_decide_eq_true h5
        have c := G m _ e
        have c : CallOk L n F j ks.length m := c
        rw [h.length] at c
        cases xs with
        | nil => cases es; exact ok_call0 (f := f.frm n) c (isGl_ok h2)
        | cons y ys => cases es with
          | cons hy ht => exact ok_call (f := f.frm n) (.cons hy ht) c (isGl_ok h2)
      | _ => cases h1
theorem k_bi (G : GlOk L n F gl) {o : Bi} {ks : List Ck} {ms : List Sm} {tvs : List (List Nat)} (h : CksOk L n ks ms tvs) : CkOk L n (kBi gl o ks) (sBi o ms) tv := by
  refine ofE (fun f x hx => ?_) rfl fun f op xs pos h => nomatch h
  match x, hx with
  | .Call (.Name m p) (y :: ys) [] q, hx =>
    obtain ⟨h1, h2, h3, h4, h5⟩ := ba5 hx
    obtain rfl := of_decide_eq_true h3
    obtain ⟨g1, g2⟩ := freeB_ok G h4
    have es := h.es f _ h5
    cases es with
    | cons hy ht => exact ok_bi (f := f.frm n) (.cons hy ht) (of_decide_eq_true h1) (of_decide_eq_true h2) g1 g2
  | .Call (.Name m p) [y] [⟨some w, .Constant (.bool true) j p2, kp⟩] q, hx =>
    obtain ⟨h1, h2, h3, h4, h5⟩ := ba5 hx
    obtain rfl := of_decide_eq_true h1
    obtain rfl := of_decide_eq_true h2
    obtain rfl := of_decide_eq_true h3
    obtain ⟨g1, g2⟩ := freeB_ok G h4
    have es := h.es f _ h5
    cases es with
    | cons hy ht =>
      cases ht
      exact ok_biR (f := f.frm n) hy g1 g2
theorem k_isi (G : GlOk L n F gl) {t : Ty} (ha : CkOk L n a ma ta) : CkOk L n (kIsi gl t a) (sIsi t ma) tv := by
  refine ofE (fun f x hx => ?_) rfl fun f op xs pos h => nomatch h
  match x, hx with
  | .Call (.Name m p) [y, .Name w p2] [] q, hx =>
    obtain ⟨h1, h2, h3, h4, h5⟩ := ba5 hx
    obtain rfl := of_decide_eq_true h1
    obtain rfl := of_decide_eq_true h2
    obtain ⟨g1, g2⟩ := freeB_ok G h3
    obtain ⟨g3, g4⟩ := freeB_ok G h4
    exact ok_isi (f := f.frm n) (ha.e f y h5) g1 g2 g3 g4
theorem k_ix (ha : CkOk L n a ma ta) (hb : CkOk L n b mb tb') {pa : Fs → Expr → Bool} {g : B → St → R Unit} (hpa : ∀ f x, pa f x = true → OkA L (f.frm n) x (sIx ma mb g)) : CkOk L n (kIx a b pa) (sIx ma mb g) tv := by
  have he : ∀ f x, (kIx a b pa).e f x = true → OkE L (f.frm n) x (sIx ma mb g) := fun f x hx => by
    cases x with
    | Subscript y z p => exact ok_ix (ha.e f y (ba hx).1) (hb.e f z (ba hx).2)
    | _ => cases hx
  exact ⟨he, fun f op xs pos h => (nomatch h), fun f tg x hx => (he f x hx).it rfl, fun f x hx => (nomatch hx), hpa⟩
theorem asg_sub {env : Env} {o i : Expr} {pos : Pos} {v : Value} (hi : ∀ l h s p, i ≠ .Slice l h s p) : assign (.Subscript o i pos) env v = (do
      let ov ← holding [v] (eval o env)
      let iv ← holding [v, ov] (eval i env)
      standAt pos
      holding [v, ov, iv] (setItem ov iv v)
      release [v, ov, iv] []) := by
  cases i <;> first | rfl | exact absurd rfl (hi _ _ _ _)
end
end Ev

/-! the check of expressions whole; of statements -/
namespace Ev
open PySem PySem.Spec PyProof.Rows L2
section
variable {L : Law} {n : Nat} {F : Fn} {gl : Gl} {a b c : Ck} {ma mb mc : Sm} {ta tb' tc tv : List Nat}
theorem k_put1 {k : Nat} {g : B → St → R Unit} (hb : CkOk L n b mb tb') (hg : g = put1 k mb) (f : Fs) (x : Expr) (hx : kPut1 k b f x = true) : OkA L (f.frm n) x (sIx ma mb g) := by
  match x, hx with
  | .Subscript (.Name m p) y q, hx =>
    obtain ⟨h1, h2, h3, h4⟩ := ba4 hx
    refine a_put1 (f := f.frm n) (of_decide_eq_true h1) (visB_ok h2) (nmOk_ok h3).1 (nmOk_ok h3).2 (hb.e f y h4) hg fun env v => asg_sub (hb.e f y h4).pl.ns
theorem k_put2 {k : Nat} {g : B → St → R Unit} (ha : CkOk L n a ma ta) (hb : CkOk L n b mb tb') {mz : Sm} (hg : g = put2 k ma mb) (f : Fs) (x : Expr) (hx : kPut2 k a b f x = true) : OkA L (f.frm n) x (sIx mz mb g) := by
  match x, hx with
  | .Subscript (.Subscript (.Name m p) z p2) y q, hx =>
    obtain ⟨h1, h2, h3, h4, h5⟩ := ba5 hx
    exact a_put2 (f := f.frm n) (of_decide_eq_true h1) (visB_ok h2) (nmOk_ok h3).1 (nmOk_ok h3).2 (ha.e f z h4) (hb.e f y h5) hg fun env v => asg_sub (hb.e f y h5).pl.ns
/-- a slice's end that is checked -/
theorem k_part {e : E} (hb : CkOk L n b mb tb') (hm : e = .con .non → mb = sCon .non) {f : Fs} {x : Option Expr} (hx : partB e b f x = true) : OkPart L (f.frm n) x (sPart e mb) := by
  cases x with
  | none =>
    unfold partB at hx
    dsimp only at hx
    split at hx
    · have : sPart (.con .non) mb = mb := rfl
      rw [this, hm rfl]
      exact part_none
    · cases hx
  | some y =>
    unfold partB at hx
    dsimp only at hx
    split at hx
    · cases hx
    · rename_i hne
      have : sPart e mb = { mb with p := fun s => (mb.p s).bind fun d s => match d with
        | .int i => .ok (.int i) s
        | _ => .bad } := by
        unfold sPart
        split
        · exact absurd rfl hne
        · rfl
      rw [this]
      exact part_some (hb.e f y hx)
theorem k_sl {l h : E} (ha : CkOk L n a ma ta) (hb : CkOk L n b mb tb') (hc : CkOk L n c mc tc) (hl : l = .con .non → mb = sCon .non) (hh : h = .con .non → mc = sCon .non) : CkOk L n (kSl a (partB l b) (partB h c)) (sSl ma (sPart l mb) (sPart h mc)) tv := by
  refine ofE (fun f x hx => ?_) rfl fun f op xs pos h => nomatch h
  match x, hx with
  | .Subscript y (.Slice lo hi none p) q, hx =>
    obtain ⟨h1, h2, h3⟩ := ba3 hx
    exact ok_sl (ha.e f y h1) (k_part hb hl h2) (k_part hc hh h3)
theorem k_rev (ha : CkOk L n a ma ta) : CkOk L n (kRev a) (sRev ma) tv := by
  refine ofE (fun f x hx => ?_) rfl fun f op xs pos h => nomatch h
  match x, hx with
  | .Subscript y (.Slice none none (some (.UnaryOp .USub (.Constant (.int i) j p1) p2)) p) q, hx =>
    obtain ⟨h1, h2⟩ := ba hx
    obtain rfl := of_decide_eq_true h1
    exact ok_rev (ha.e f y h2)
theorem k_compB {vs : List Nat} {g it c e : Ck} {mg mi mc me : Sm} {tvg ti tcc te : List Nat} {ct : Bool} (hg : CkOk L n g mg tvg) (hi : CkOk L n it mi ti) (hc : CkOk L n c mc tcc) (he : CkOk L n e me te) (hct : ct = true → mc = sCon (.bl true)) {f : Fs} {elt tg iter : Expr} {ifs : List Expr} {scope : Scope}
    (hx : compB vs tvg g it c e ct f elt tg iter ifs scope = true) : OkComp L (f.frm n) elt tg iter ifs scope vs mg mi mc me := by
  obtain ⟨h1, h2, h3, h4, h5⟩ := ba5 hx
  obtain ⟨h5, h6, h7⟩ := ba3 h5
  refine ⟨⟨ownOf f.N vs, of_decide_eq_true h1, h2⟩, hi.i f tg iter h3, ⟨tvg, fun v hv => by simpa using List.all_eq_true.mp h4 v hv, hg.g (f.blk scope) tg h5⟩, ?_, he.e (f.blk scope) elt h7⟩
  cases ifs with
  | nil => exact .inl ⟨rfl, hct h6⟩
  | cons y ys =>
    cases ys with
    | nil => exact .inr ⟨y, rfl, hc.e (f.blk scope) y (ba h6).2⟩
    | cons _ _ => cases h6
theorem k_comp {vs : List Nat} {g it c e : Ck} {mg mi mc me : Sm} {tvg ti tcc te : List Nat} {ct : Bool} (hg : CkOk L n g mg tvg) (hi : CkOk L n it mi ti) (hc : CkOk L n c mc tcc) (he : CkOk L n e me te) (hct : ct = true → mc = sCon (.bl true)) : CkOk L n (kComp vs tvg g it c e ct) (sComp vs mg mi mc me) tv := by
  refine ofE (fun f x hx => ?_) rfl fun f op xs pos h => nomatch h
  match x, hx with
  | .ListComp elt [⟨tg, iter, ifs, 0⟩] scope p, hx => exact ok_comp (k_compB hg hi hc he hct hx)
theorem k_ifs {c : Ck} {mc : Sm} {tcc : List Nat} {ct : Bool} (hc : CkOk L n c mc tcc) (hct : ct = true → mc = sCon (.bl true)) {f : Fs} {ifs : List Expr} (hx : ifsB ct c f ifs = true) : OkC L (f.frm n) ifs mc := by
  cases ifs with
  | nil => exact .inl ⟨rfl, hct hx⟩
  | cons y ys =>
    cases ys with
    | nil => exact .inr ⟨y, rfl, hc.e f y (ba hx).2⟩
    | cons _ _ => cases hx
theorem k_comp2B {vs vs1 : List Nat} {g it c g1 it1 c1 e : Ck} {mg mi mc mg1 mi1 mc1 me : Sm} {tvg ti tcc tvg1 ti1 tcc1 te : List Nat} {ct ct1 : Bool} (hg : CkOk L n g mg tvg) (hi : CkOk L n it mi ti) (hc : CkOk L n c mc tcc) (hg1 : CkOk L n g1 mg1 tvg1) (hi1 : CkOk L n it1 mi1 ti1) (hc1 : CkOk L n c1 mc1 tcc1) (he : CkOk L n e me te)
    (hct : ct = true → mc = sCon (.bl true)) (hct1 : ct1 = true → mc1 = sCon (.bl true)) {f : Fs} {elt tg iter tg1 iter1 : Expr} {ifs ifs1 : List Expr} {scope : Scope} {p : Pos}
    (hx : comp2B vs vs1 tvg tvg1 g it c g1 it1 c1 e ct ct1 f (.ListComp elt [⟨tg, iter, ifs, 0⟩, ⟨tg1, iter1, ifs1, 0⟩] scope p) = true) : OkComp2 L (f.frm n) elt tg iter tg1 iter1 ifs ifs1 scope vs vs1 mg mi mc mg1 mi1 mc1 me := by
  obtain ⟨ha, hb, hd, hs⟩ := ba4 hx
  obtain ⟨h1, h2, h3, h4, h5⟩ := ba5 ha
  obtain ⟨h6, h7, h8, h9, h10⟩ := ba5 hb
  exact ⟨⟨ownOf f.N vs, of_decide_eq_true h1, h2⟩, fun v hv => by simpa using List.all_eq_true.mp hs v hv, hi.i f tg iter h3, ⟨tvg, fun v hv => by simpa using List.all_eq_true.mp h4 v hv, hg.g (f.blk scope) tg h5⟩,
    k_ifs (f := f.blk scope) hc hct h6, hi1.i (f.blk scope) tg1 iter1 h7, ⟨tvg1, fun v hv => by simpa using List.all_eq_true.mp h8 v hv, hg1.g (f.blk scope) tg1 h9⟩, k_ifs (f := f.blk scope) hc1 hct1 h10, he.e (f.blk scope) elt hd⟩
theorem k_comp2 {vs vs1 : List Nat} {g it c g1 it1 c1 e : Ck} {mg mi mc mg1 mi1 mc1 me : Sm} {tvg ti tcc tvg1 ti1 tcc1 te : List Nat} {ct ct1 : Bool} (hg : CkOk L n g mg tvg) (hi : CkOk L n it mi ti) (hc : CkOk L n c mc tcc) (hg1 : CkOk L n g1 mg1 tvg1) (hi1 : CkOk L n it1 mi1 ti1) (hc1 : CkOk L n c1 mc1 tcc1) (he : CkOk L n e me te)
    (hct : ct = true → mc = sCon (.bl true)) (hct1 : ct1 = true → mc1 = sCon (.bl true)) : CkOk L n (kComp2 vs vs1 tvg tvg1 g it c g1 it1 c1 e ct ct1) (sComp2 vs vs1 mg mi mc mg1 mi1 mc1 me) tv := by
  refine ofE (fun f x hx => ?_) rfl fun f op xs pos h => nomatch h
  match x, hx with
  | .ListComp elt [⟨tg, iter, ifs, 0⟩, ⟨tg1, iter1, ifs1, 0⟩] scope p, hx => exact ok_comp2 (k_comp2B hg hi hc hg1 hi1 hc1 he hct hct1 hx)
theorem isT {c : E} (h : isTrueC c = true) : ev F c = sCon (.bl true) := by
  unfold isTrueC at h
  split at h
  · rfl
  · cases h
theorem ofI {i : Fs → Expr → Expr → Bool} {m : Sm} {tv : List Nat} (h : ∀ f tg x, i f tg x = true → OkI L (f.frm n) tg x m) : CkOk L n (Ck.it i) m tv :=
  ⟨fun _ _ h => (nomatch h), fun _ _ _ _ h => (nomatch h), h, fun _ _ h => (nomatch h), fun _ _ h => (nomatch h)⟩
theorem k_rng (G : GlOk L n F gl) (ha : CkOk L n a ma ta) : CkOk L n (kRng gl a) (sRng ma) tv := by
  refine ofI fun f tg x hx => ?_
  match x, hx with
  | .Call (.Name m p) [y] [] q, hx =>
    obtain ⟨h1, h2, h3⟩ := ba3 hx
    obtain rfl := of_decide_eq_true h1
    obtain ⟨g1, g2⟩ := freeB_ok G h2
    exact i_rng (f := f.frm n) (ha.e f y h3) g1 g2
theorem k_rng2 (G : GlOk L n F gl) (ha : CkOk L n a ma ta) (hb : CkOk L n b mb tb') : CkOk L n (kRng2 gl a b) (sRng2 ma mb) tv := by
  refine ofI fun f tg x hx => ?_
  match x, hx with
  | .Call (.Name m p) [y, z] [] q, hx =>
    obtain ⟨h1, h2, h3, h4⟩ := ba4 hx
    obtain rfl := of_decide_eq_true h1
    obtain ⟨g1, g2⟩ := freeB_ok G h2
    exact i_rng2 (f := f.frm n) (ha.e f y h3) (hb.e f z h4) g1 g2
theorem k_zip (G : GlOk L n F gl) {ks : List Ck} {ms : List Sm} {tvs : List (List Nat)} (h : CksOk L n ks ms tvs) : CkOk L n (kZip gl ks) (sZip ms) tv := by
  refine ofI fun f tg x hx => ?_
  match x, hx with
  | .Call (.Name m p) (y :: ys) [] q, hx =>
    obtain ⟨h1, h2, h3, h4⟩ := ba4 hx
    obtain rfl := of_decide_eq_true h1
    obtain ⟨g1, g2⟩ := freeB_ok G h2
    have o := h.es f (y :: ys) h3
    have hl := of_decide_eq_true h4
    rw [h.length] at hl
    cases o with
    | cons a t => exact i_zip (f := f.frm n) (.cons a t) hl g1 g2
theorem k_zipS (G : GlOk L n F gl) (ha : CkOk L n a ma ta) : CkOk L n (kZipS gl a) (sZipS ma) tv := by
  refine ofI fun f tg x hx => ?_
  match x, hx with
  | .Call (.Name m p) [.Starred y p2] [] q, hx =>
    obtain ⟨h1, h2, h3⟩ := ba3 hx
    obtain rfl := of_decide_eq_true h1
    obtain ⟨g1, g2⟩ := freeB_ok G h2
    exact i_zipS (f := f.frm n) (ha.e f y h3) g1 g2
theorem k_enum (G : GlOk L n F gl) (ha : CkOk L n a ma ta) : CkOk L n (kEnum gl a) (sEnum ma) tv := by
  refine ofI fun f tg x hx => ?_
  match tg, x, hx with
  | .Tuple es kk tp, .Call (.Name m p) [y] [] q, hx =>
    obtain ⟨h1, h2, h3⟩ := ba3 hx
    obtain rfl := of_decide_eq_true h1
    obtain ⟨g1, g2⟩ := freeB_ok G h2
    exact i_enum (f := f.frm n) (ha.e f y h3) g1 g2
theorem k_no {m : Sm} : CkOk L n kNo m tv := ofI fun _ _ _ h => nomatch h
theorem k_dnew : CkOk L n kDnew sDnew tv := by
  refine ofE (fun f x hx => ?_) rfl fun f op xs pos h => nomatch h
  match x, hx with
  | .Dict [] [] q, hx => exact ok_dnew
theorem k_dnew1 (ha : CkOk L n a ma ta) (hb : CkOk L n b mb tb') : CkOk L n (kDnew1 a b) (sDnew1 ma mb) tv := by
  refine ofE (fun f x hx => ?_) rfl fun f op xs pos h => nomatch h
  match x, hx with
  | .Dict [some y] [z] q, hx =>
    obtain ⟨h1, h2⟩ := ba hx
    exact ok_dnew1 (ha.e f y h1) (hb.e f z h2)
theorem k_dget (ha : CkOk L n a ma ta) (hb : CkOk L n b mb tb') (hc : CkOk L n c mc tc) : CkOk L n (kDget a b c) (sDget ma mb mc) tv := by
  refine ofE (fun f x hx => ?_) rfl fun f op xs pos h => nomatch h
  match x, hx with
  | .Call (.Attribute (.Name m np) k ap) [y, z] [] q, hx =>
    obtain ⟨h1, h2, h3, h4, h5⟩ := ba5 hx
    obtain rfl := of_decide_eq_true h1
    exact ok_dget (ha.e f _ h3) (hb.e f y h4) (hc.e f z h5) h2
theorem k_dix (ha : CkOk L n a ma ta) (hb : CkOk L n b mb tb') : CkOk L n (kDix a b) (sDix ma mb) tv := by
  refine ofE (fun f x hx => ?_) rfl fun f op xs pos h => nomatch h
  match x, hx with
  | .Subscript y z q, hx =>
    obtain ⟨h1, h2⟩ := ba hx
    exact ok_dix (ha.e f y h1) (hb.e f z h2)
theorem k_din (ha : CkOk L n a ma ta) (hb : CkOk L n b mb tb') : CkOk L n (kDin .In a b) (sDin ma mb) tv := by
  refine ofE (fun f x hx => ?_) rfl fun f op xs pos h => nomatch h
  match x, hx with
  | .Compare y [p] [z] q, hx =>
    obtain ⟨h1, h2, h3⟩ := ba3 hx
    obtain rfl : p = .In := by cases p <;> first | rfl | cases h1
    exact ok_din (ha.e f y h2) (hb.e f z h3)
theorem k_dnin (ha : CkOk L n a ma ta) (hb : CkOk L n b mb tb') : CkOk L n (kDin .NotIn a b) (sDnin ma mb) tv := by
  refine ofE (fun f x hx => ?_) rfl fun f op xs pos h => nomatch h
  match x, hx with
  | .Compare y [p] [z] q, hx =>
    obtain ⟨h1, h2, h3⟩ := ba3 hx
    obtain rfl : p = .NotIn := by cases p <;> first | rfl | cases h1
    exact ok_dnin (ha.e f y h2) (hb.e f z h3)
theorem k_dkeys (i : Nat) : CkOk L n (kDkeys i) (sDkeys i) tv := by
  refine ofI fun f tg x hx => ?_
  match x, hx with
  | .Name m p, hx =>
    obtain ⟨h1, h2, h3⟩ := ba3 hx
    exact i_dkeys (f := f.frm n) (of_decide_eq_true h1) (visB_ok h2) (nmOk_ok h3).1 (nmOk_ok h3).2
theorem k_ditems (i : Nat) : CkOk L n (kDitems i) (sDitems i) tv := by
  refine ofI fun f tg x hx => ?_
  match tg, x, hx with
  | .Tuple es kk tp, .Call (.Attribute (.Name m p) k ap) [] [] q, hx =>
    obtain ⟨h1, h2, h3, h4, h5⟩ := ba5 hx
    obtain rfl := of_decide_eq_true h1
    exact i_ditems (f := f.frm n) (of_decide_eq_true h2) (visB_ok h3) (nmOk_ok h4).1 (nmOk_ok h4).2 h5
theorem tvs_tup : ∀ es : List E, (es.map tvs).flatten = tvs.tvsL es
  | [] => rfl
  | e :: es => by rw [List.map_cons, List.flatten_cons, tvs_tup es]; rfl
mutual
theorem ck_ok (G : GlOk L n F gl) : ∀ e : E, CkOk L n (ck gl e) (ev F e) (tvs e)
  | .var i => k_var i
  | .con d => k_con G d
  | .tup es => by
    have := k_tup (ckl_ok G es)
    rw [tvs_tup] at this
    exact this
  | .lst es => k_lst (ckl_ok G es)
  | .bin o a b => k_bin (ck_ok G a) (ck_ok G b)
  | .neg a => k_neg (ck_ok G a)
  | .not a => k_not (ck_ok G a)
  | .and a b => k_and (ck_ok G a) (ck_ok G b)
  | .or a b => k_or (ck_ok G a) (ck_ok G b)
  | .cmp o a b => k_cmp (ck_ok G a) (ck_ok G b)
  | .chain o p a b c => k_chain (ck_ok G a) (ck_ok G b) (ck_ok G c)
  | .ife c a b => k_ife (ck_ok G c) (ck_ok G a) (ck_ok G b)
  | .call f es => k_call G (ckl_ok G es)
  | .bi f es => k_bi G (ckl_ok G es)
  | .isi t a => k_isi G (ck_ok G a)
  | .ix (.var k) i => k_ix (ck_ok G (.var k)) (ck_ok G i) (k_put1 (ck_ok G i) rfl)
  | .ix (.ix (.var k) j) i => k_ix (ck_ok G (.ix (.var k) j)) (ck_ok G i) (k_put2 (ck_ok G j) (ck_ok G i) rfl)
  | .ix (.ix (.con k) j) i => k_ix (ck_ok G (.ix (.con k) j)) (ck_ok G i) fun _ _ h => nomatch h
  | .ix (.ix (.tup k) j) i => k_ix (ck_ok G (.ix (.tup k) j)) (ck_ok G i) fun _ _ h => nomatch h
  | .ix (.ix (.lst k) j) i => k_ix (ck_ok G (.ix (.lst k) j)) (ck_ok G i) fun _ _ h => nomatch h
  | .ix (.ix (.bin o a b) j) i => k_ix (ck_ok G (.ix (.bin o a b) j)) (ck_ok G i) fun _ _ h => nomatch h
  | .ix (.ix (.neg k) j) i => k_ix (ck_ok G (.ix (.neg k) j)) (ck_ok G i) fun _ _ h => nomatch h
  | .ix (.ix (.not k) j) i => k_ix (ck_ok G (.ix (.not k) j)) (ck_ok G i) fun _ _ h => nomatch h
  | .ix (.ix (.and a b) j) i => k_ix (ck_ok G (.ix (.and a b) j)) (ck_ok G i) fun _ _ h => nomatch h
  | .ix (.ix (.or a b) j) i => k_ix (ck_ok G (.ix (.or a b) j)) (ck_ok G i) fun _ _ h => nomatch h
  | .ix (.ix (.cmp o a b) j) i => k_ix (ck_ok G (.ix (.cmp o a b) j)) (ck_ok G i) fun _ _ h => nomatch h
  | .ix (.ix (.chain o p a b c) j) i => k_ix (ck_ok G (.ix (.chain o p a b c) j)) (ck_ok G i) fun _ _ h => nomatch h
  | .ix (.ix (.ife a b c) j) i => k_ix (ck_ok G (.ix (.ife a b c) j)) (ck_ok G i) fun _ _ h => nomatch h
  | .ix (.ix (.call f es) j) i => k_ix (ck_ok G (.ix (.call f es) j)) (ck_ok G i) fun _ _ h => nomatch h
  | .ix (.ix (.bi f es) j) i => k_ix (ck_ok G (.ix (.bi f es) j)) (ck_ok G i) fun _ _ h => nomatch h
  | .ix (.ix (.isi t a) j) i => k_ix (ck_ok G (.ix (.isi t a) j)) (ck_ok G i) fun _ _ h => nomatch h
  | .ix (.ix (.ix a b) j) i => k_ix (ck_ok G (.ix (.ix a b) j)) (ck_ok G i) fun _ _ h => nomatch h
  | .ix (.ix (.sl a b c) j) i => k_ix (ck_ok G (.ix (.sl a b c) j)) (ck_ok G i) fun _ _ h => nomatch h
  | .ix (.ix (.rev a) j) i => k_ix (ck_ok G (.ix (.rev a) j)) (ck_ok G i) fun _ _ h => nomatch h
  | .ix (.ix (.comp vs g it c e) j) i => k_ix (ck_ok G (.ix (.comp vs g it c e) j)) (ck_ok G i) fun _ _ h => nomatch h
  | .ix (.ix (.comp2 vs vs1 g it c g1 it1 c1 e) j) i => k_ix (ck_ok G (.ix (.comp2 vs vs1 g it c g1 it1 c1 e) j)) (ck_ok G i) fun _ _ h => nomatch h
  | .ix (.ix (.rng a) j) i => k_ix (ck_ok G (.ix (.rng a) j)) (ck_ok G i) fun _ _ h => nomatch h
  | .ix (.ix (.rng2 a b) j) i => k_ix (ck_ok G (.ix (.rng2 a b) j)) (ck_ok G i) fun _ _ h => nomatch h
  | .ix (.ix (.zip a) j) i => k_ix (ck_ok G (.ix (.zip a) j)) (ck_ok G i) fun _ _ h => nomatch h
  | .ix (.ix (.zipS a) j) i => k_ix (ck_ok G (.ix (.zipS a) j)) (ck_ok G i) fun _ _ h => nomatch h
  | .ix (.ix (.enum a) j) i => k_ix (ck_ok G (.ix (.enum a) j)) (ck_ok G i) fun _ _ h => nomatch h
  | .ix (.ix .dnew j) i => k_ix (ck_ok G (.ix .dnew j)) (ck_ok G i) fun _ _ h => nomatch h
  | .ix (.ix (.dnew1 a b) j) i => k_ix (ck_ok G (.ix (.dnew1 a b) j)) (ck_ok G i) fun _ _ h => nomatch h
  | .ix (.ix (.dget a b c) j) i => k_ix (ck_ok G (.ix (.dget a b c) j)) (ck_ok G i) fun _ _ h => nomatch h
  | .ix (.ix (.dix a b) j) i => k_ix (ck_ok G (.ix (.dix a b) j)) (ck_ok G i) fun _ _ h => nomatch h
  | .ix (.ix (.din a b) j) i => k_ix (ck_ok G (.ix (.din a b) j)) (ck_ok G i) fun _ _ h => nomatch h
  | .ix (.ix (.dnin a b) j) i => k_ix (ck_ok G (.ix (.dnin a b) j)) (ck_ok G i) fun _ _ h => nomatch h
  | .ix (.ix (.dkeys a) j) i => k_ix (ck_ok G (.ix (.dkeys a) j)) (ck_ok G i) fun _ _ h => nomatch h
  | .ix (.ix (.ditems a) j) i => k_ix (ck_ok G (.ix (.ditems a) j)) (ck_ok G i) fun _ _ h => nomatch h
  | .ix (.con k) i => k_ix (ck_ok G (.con k)) (ck_ok G i) fun _ _ h => nomatch h
  | .ix (.tup k) i => k_ix (ck_ok G (.tup k)) (ck_ok G i) fun _ _ h => nomatch h
  | .ix (.lst k) i => k_ix (ck_ok G (.lst k)) (ck_ok G i) fun _ _ h => nomatch h
  | .ix (.bin o a b) i => k_ix (ck_ok G (.bin o a b)) (ck_ok G i) fun _ _ h => nomatch h
  | .ix (.neg k) i => k_ix (ck_ok G (.neg k)) (ck_ok G i) fun _ _ h => nomatch h
  | .ix (.not k) i => k_ix (ck_ok G (.not k)) (ck_ok G i) fun _ _ h => nomatch h
  | .ix (.and a b) i => k_ix (ck_ok G (.and a b)) (ck_ok G i) fun _ _ h => nomatch h
  | .ix (.or a b) i => k_ix (ck_ok G (.or a b)) (ck_ok G i) fun _ _ h => nomatch h
  | .ix (.cmp o a b) i => k_ix (ck_ok G (.cmp o a b)) (ck_ok G i) fun _ _ h => nomatch h
  | .ix (.chain o p a b c) i => k_ix (ck_ok G (.chain o p a b c)) (ck_ok G i) fun _ _ h => nomatch h
  | .ix (.ife a b c) i => k_ix (ck_ok G (.ife a b c)) (ck_ok G i) fun _ _ h => nomatch h
  | .ix (.call f es) i => k_ix (ck_ok G (.call f es)) (ck_ok G i) fun _ _ h => nomatch h
  | .ix (.bi f es) i => k_ix (ck_ok G (.bi f es)) (ck_ok G i) fun _ _ h => nomatch h
  | .ix (.isi t a) i => k_ix (ck_ok G (.isi t a)) (ck_ok G i) fun _ _ h => nomatch h
  | .ix (.sl a b c) i => k_ix (ck_ok G (.sl a b c)) (ck_ok G i) fun _ _ h => nomatch h
  | .ix (.rev a) i => k_ix (ck_ok G (.rev a)) (ck_ok G i) fun _ _ h => nomatch h
  | .ix (.comp vs g it c e) i => k_ix (ck_ok G (.comp vs g it c e)) (ck_ok G i) fun _ _ h => nomatch h
  | .ix (.comp2 vs vs1 g it c g1 it1 c1 e) i => k_ix (ck_ok G (.comp2 vs vs1 g it c g1 it1 c1 e)) (ck_ok G i) fun _ _ h => nomatch h
  | .ix (.rng a) i => k_ix (ck_ok G (.rng a)) (ck_ok G i) fun _ _ h => nomatch h
  | .ix (.rng2 a b) i => k_ix (ck_ok G (.rng2 a b)) (ck_ok G i) fun _ _ h => nomatch h
  | .ix (.zip a) i => k_ix (ck_ok G (.zip a)) (ck_ok G i) fun _ _ h => nomatch h
  | .ix (.zipS a) i => k_ix (ck_ok G (.zipS a)) (ck_ok G i) fun _ _ h => nomatch h
  | .ix (.enum a) i => k_ix (ck_ok G (.enum a)) (ck_ok G i) fun _ _ h => nomatch h
  | .ix .dnew i => k_ix (ck_ok G .dnew) (ck_ok G i) fun _ _ h => nomatch h
  | .ix (.dnew1 a b) i => k_ix (ck_ok G (.dnew1 a b)) (ck_ok G i) fun _ _ h => nomatch h
  | .ix (.dget a b c) i => k_ix (ck_ok G (.dget a b c)) (ck_ok G i) fun _ _ h => nomatch h
  | .ix (.dix a b) i => k_ix (ck_ok G (.dix a b)) (ck_ok G i) fun _ _ h => nomatch h
  | .ix (.din a b) i => k_ix (ck_ok G (.din a b)) (ck_ok G i) fun _ _ h => nomatch h
  | .ix (.dnin a b) i => k_ix (ck_ok G (.dnin a b)) (ck_ok G i) fun _ _ h => nomatch h
  | .ix (.dkeys a) i => k_ix (ck_ok G (.dkeys a)) (ck_ok G i) fun _ _ h => nomatch h
  | .ix (.ditems a) i => k_ix (ck_ok G (.ditems a)) (ck_ok G i) fun _ _ h => nomatch h
  | .sl a l h => k_sl (ck_ok G a) (ck_ok G l) (ck_ok G h) (fun e => by rw [e]; rfl) (fun e => by rw [e]; rfl)
  | .rev a => k_rev (ck_ok G a)
  | .comp vs g it c e => k_comp (ck_ok G g) (ck_ok G it) (ck_ok G c) (ck_ok G e) fun h => by
    unfold isTrueC at h
    split at h
    · rfl
    · cases h
  | .comp2 vs vs1 g it c g1 it1 c1 e => k_comp2 (ck_ok G g) (ck_ok G it) (ck_ok G c) (ck_ok G g1) (ck_ok G it1) (ck_ok G c1) (ck_ok G e) isT isT
  | .rng a => k_rng G (ck_ok G a)
  | .rng2 a b => k_rng2 G (ck_ok G a) (ck_ok G b)
  | .zip es => k_zip G (ckl_ok G es)
  | .zipS a => k_zipS G (ck_ok G a)
  | .enum a => k_enum G (ck_ok G a)
  | .dnew => k_dnew
  | .dnew1 k v => k_dnew1 (ck_ok G k) (ck_ok G v)
  | .dget a k d => k_dget (ck_ok G a) (ck_ok G k) (ck_ok G d)
  | .dix a k => k_dix (ck_ok G a) (ck_ok G k)
  | .din k a => k_din (ck_ok G k) (ck_ok G a)
  | .dnin k a => k_dnin (ck_ok G k) (ck_ok G a)
  | .dkeys i => k_dkeys i
  | .ditems i => k_ditems i
theorem ckl_ok (G : GlOk L n F gl) : ∀ es : List E, CksOk L n (ckl gl es) (evs F es) (es.map tvs)
  | [] => .nil
  | e :: es => .cons (ck_ok G e) (ckl_ok G es)
end
end
end Ev

set_option maxHeartbeats 1000000
/-! the check of statements -/
namespace Ev
open PySem PySem.Spec PyProof.Rows L2
def blkKind (sc : Scope) : ScopeKind := if sc.kind.isAnnotationScope then .function else sc.kind
/-- a comprehension that is stored on its line -/
def swB (sc : Scope) (x t : Expr) : Bool := match x with
  | .ListComp _ _ s p => (match t with
    | .Name y py => blkKind sc == .function && sc.names.lookup y == some .local && py.line == p.line && !(s.names.any fun (n, k) => n == y && (k == .local || k == .cell))
    | _ => false)
  | .SetComp _ _ _ _ => true
  | .DictComp _ _ _ _ _ => true
  | _ => false
theorem swB_ok {sc : Scope} {x t : Expr} {l : Nat} {env : Env} (h : swB sc x t = false) (he : env.scope = sc) : swapsWithSole [t] x l env = pure false := by
  show swapsWith x (some t) l env = pure false
  subst he
  unfold swapsWith
  cases x with
  | ListComp e gs s p =>
    cases t with
    | Name y py =>
      show pure _ = pure false
      rw [← h]
      rfl
    | _ => rfl
  | SetComp _ _ _ _ => cases h
  | DictComp _ _ _ _ _ => cases h
  | _ => rfl
/-- no comprehension -/
def binB : Expr → Bool
  | .ListComp _ _ _ _ => false
  | .SetComp _ _ _ _ => false
  | .DictComp _ _ _ _ _ => false
  | _ => true
theorem binB_ok {x t : Expr} {l : Nat} {env : Env} (h : binB x = true) : swapsWith x (some t) l env = pure false := by
  unfold swapsWith
  cases x with
  | ListComp _ _ _ _ => cases h
  | SetComp _ _ _ _ => cases h
  | DictComp _ _ _ _ _ => cases h
  | _ => rfl
def starB : Expr → Bool
  | .Starred .. => true
  | _ => false
/-- what is stored from the right -/
def swS (sc : Scope) (ts vs : List Expr) : Option (Option (List Str)) :=
  if (!(ts.length == 2 || ts.length == 3) || vs.length != ts.length || blkKind sc != .function) = true then some none
  else if (vs.any fun | .Starred .. => true | _ => false) = true then some none
  else
    let line := (ts.head?.map (·.pos.line)).getD 0
    let names := ts.filterMap fun
      | .Name id pos => if sc.names.lookup id == some .local && pos.line == line then some id else none
      | _ => none
    if (names.length != ts.length || names.eraseDups.length != names.length) = true then some none
    else if vs.all (foldedForSure 8) = true then some none
    else if vs.all (constantsAlone 8) = true then none
    else some (some names)
theorem swS_ok {sc : Scope} {ts vs : List Expr} {r : Option (List Str)} {env : Env} {k k2 : Nat} {p p2 : Pos} (h : swS sc ts vs = some r) (he : env.scope = sc) : swappedStores [.Tuple ts k p] (.Tuple vs k2 p2) env = pure r := by
  subst he
  unfold swS at h
  unfold swappedStores
  simp only [] at h ⊢
  split at h
  · cases h
    rename_i hc
    rw [if_pos (by exact hc)]
  · rename_i hc
    rw [if_neg (by exact hc)]
    split at h
    · cases h
      rename_i h2
      rw [if_pos (by exact h2)]
    · rename_i h2
      rw [if_neg (by exact h2)]
      split at h
      · cases h
        rename_i h3
        rw [if_pos (by exact h3)]
      · rename_i h3
        rw [if_neg (by exact h3)]
        split at h
        · cases h
          rename_i h4
          rw [if_pos (by exact h4)]
        · rename_i h4
          rw [if_neg (by exact h4)]
          split at h
          · cases h
          · rename_i h5
            cases h
            rw [if_neg (by exact h5)]
            rfl
def swN (sc : Scope) (t x : Expr) : Bool := match t, x with
  | .Tuple ts _ _, .Tuple vs _ _ => decide (swS sc ts vs = some none)
  | .List _ _, .Tuple _ _ _ => false
  | _, _ => true
theorem swN_ok {sc : Scope} {t x : Expr} {env : Env} (h : swN sc t x = true) (he : env.scope = sc) : swappedStores [t] x env = pure none := by
  cases t with
  | Tuple ts k p => cases x with
    | Tuple vs k2 p2 => exact swS_ok (of_decide_eq_true h) he
    | _ => rfl
  | List ts p => cases x with
    | Tuple vs k2 p2 => cases h
    | _ => rfl
  | _ => cases x <;> rfl
def nmsB (f : Fs) : List Nat → List Expr → Bool
  | [], [] => true
  | i :: is, .Name n _ :: xs => slotB f i n && (locB f n && nmsB f is xs)
  | _, _ => false
theorem nmsB_ok {f : Fs} {n : Nat} : ∀ {is : List Nat} {xs : List Expr}, nmsB f is xs = true → Nms (f.frm n) xs is
  | [], [], _ => .nil
  | [], _ :: _, h => nomatch h
  | i :: is, [], h => nomatch h
  | i :: is, x :: xs, h => by
    cases x with
    | Name m p =>
      obtain ⟨h1, h2, h3⟩ := ba3 h
      exact .cons (of_decide_eq_true h1) (locB_ok h2).1 (locB_ok h2).2 (nmsB_ok h3)
    | _ => cases h
def kPar (f : Fs) (is : List Nat) (ks : List Ck) (ts vs : List Expr) : Bool := cks ks f vs && (match swS f.sc ts vs with
  | some none => nmsB f is ts && decide (ks.length ≤ 1000)
  | some (some ns) => (match is, ts, ks, vs with
    | [i, j], [.Name x _, .Name y _], [_, _], [_, _] => decide (ns = [x, y]) && (slotB f i x && (slotB f j y && (decide (i ≠ j) && (isLocal f x && isLocal f y))))
    | [i, j, l], [.Name x _, .Name y _, .Name z _], [_, _, _], [_, _, _] => decide (ns = [x, y, z]) && (slotB f i x && (slotB f j y && (slotB f l z && (decide (i ≠ j) && (decide (i ≠ l) && (decide (j ≠ l) && (isLocal f x && (isLocal f y && isLocal f z))))))))
    | _, _, _, _ => false)
  | none => false)
def callB : Expr → Bool
  | .Call _ _ _ _ => true
  | _ => false
/-- a suite of an except clause: names set to constants, a constant handed back -/
def cnB : D → Expr → Bool
  | d, .Constant c _ _ => conB d c
  | _, _ => false
def isRetS : S → Bool
  | .ret _ => true
  | _ => false
def ckU1 (f : Fs) (c : S) (x : Stmt) : Bool := match c, x with
  | .asg (.var i) (.con d), .Assign [.Name n _] e _ => slotB f i n && (locB f n && cnB d e)
  | .ret (.con d), .Return (some e) _ => cnB d e
  | .pass, .Pass _ => true
  | _, _ => false
def ckU (f : Fs) : List S → List Stmt → Bool
  | [], [] => true
  | c :: cs, x :: xs => ckU1 f c x && (isRetS c || ckU f cs xs)
  | _, _ => false
def lcB (gl : Gl) (f : Fs) (i : Nat) (vs : List Nat) (g it c e : E) (y : Str) (py : Pos) (elt tg iter : Expr) (ifs : List Expr) (scope : Scope) (cp : Pos) : Bool :=
  slotB f i y && (isLocal f y && (decide (f.sc.kind = .function) && ((py.line == cp.line) && (!(scope.names.any fun (n, k) => n == y && (k == .local || k == .cell)) &&
    compB vs (tvs g) (ck gl g) (ck gl it) (ck gl c) (ck gl e) (isTrueC c) f elt tg iter ifs scope))))
def lcB2 (gl : Gl) (f : Fs) (i : Nat) (vs vs1 : List Nat) (g it c g1 it1 c1 e : E) (y : Str) (py : Pos) (x : Expr) (scope : Scope) (cp : Pos) : Bool :=
  slotB f i y && (isLocal f y && (decide (f.sc.kind = .function) && ((py.line == cp.line) && (!(scope.names.any fun (n, k) => n == y && (k == .local || k == .cell)) &&
    comp2B vs vs1 (tvs g) (tvs g1) (ck gl g) (ck gl it) (ck gl c) (ck gl g1) (ck gl it1) (ck gl c1) (ck gl e) (isTrueC c) (isTrueC c1) f x))))
def asgB (gl : Gl) (f : Fs) (g e : E) (t x : Expr) : Bool := if swB f.sc x t = true then (match g, e, t, x with
    | .var i, .comp vs g' it c e', .Name y py, .ListComp elt [⟨tg, iter, ifs, 0⟩] scope cp => lcB gl f i vs g' it c e' y py elt tg iter ifs scope cp
    | .var i, .comp2 vs vs1 g' it c g1 it1 c1 e', .Name y py, .ListComp elt [⟨tg, iter, ifs, 0⟩, ⟨tg1, iter1, ifs1, 0⟩] scope cp => lcB2 gl f i vs vs1 g' it c g1 it1 c1 e' y py (.ListComp elt [⟨tg, iter, ifs, 0⟩, ⟨tg1, iter1, ifs1, 0⟩] scope cp) scope cp
    | _, _, _, _ => false)
  else swN f.sc t x && ((ck gl e).e f x && (ck gl g).a f t)
def retV (f : Fs) (i : Nat) : Expr → Bool
  | .Name n _ => slotB f i n && (visB f n && nmOk n)
  | _ => false
def retB' (gl : Gl) (f : Fs) (e : E) (x : Option Expr) : Bool := match x with
  | none => (match e with
    | .con .non => true
    | _ => false)
  | some y => (match e with
    | .var i => retV f i y
    | e => (ck gl e).e f y)
def appF (gl : Gl) (f : Fs) (i : Nat) (e : E) (x : Expr) (cp : Pos) : Expr → Bool
  | .Attribute o m ap => (match o with
    | .Name n _ => slotB f i n && (visB f n && (nmOk n && (decide (m = ("append" : Str)) && ((ap.endLine == cp.line) && (ck gl e).e f x))))
    | _ => false)
  | _ => false
def appE (gl : Gl) (f : Fs) (i : Nat) (e : E) : Expr → Bool
  | .Call c args kws cp => (match args with
    | [] => false
    | x :: r => (match r with
      | [] => (match kws with
        | [] => appF gl f i e x cp c
        | _ :: _ => false)
      | _ :: _ => false))
  | _ => false
def zAsg (gl : Gl) (f : Fs) (g e : E) : Stmt → Bool
  | .Assign ts x _ => (match ts with
    | [] => false
    | t :: r => (match r with
      | [] => asgB gl f g e t x
      | _ :: _ => false))
  | _ => false
def zPar (gl : Gl) (f : Fs) (is : List Nat) (es : List E) : Stmt → Bool
  | .Assign ts x _ => (match ts with
    | [] => false
    | t :: r => (match r with
      | [] => (match t with
        | .Tuple ts _ _ => (match x with
          | .Tuple vs _ _ => kPar f is (ckl gl es) ts vs
          | _ => false)
        | _ => false)
      | _ :: _ => false))
  | _ => false
def zEx (gl : Gl) (f : Fs) (e : E) : Stmt → Bool
  | .Expr x _ => callB x && (ck gl e).e f x
  | _ => false
def zApp (gl : Gl) (f : Fs) (i : Nat) (e : E) : Stmt → Bool
  | .Expr x _ => appE gl f i e x
  | _ => false
def zRet (gl : Gl) (f : Fs) (e : E) : Stmt → Bool
  | .Return x _ => retB' gl f e x
  | _ => false
def zIf (gl : Gl) (f : Fs) (c : E) (a b : List Stmt → Bool) : Stmt → Bool
  | .If x xs ys _ => (ck gl c).e f x && (a xs && b ys)
  | _ => false
def nilB {α : Type} : List α → Bool
  | [] => true
  | _ :: _ => false
def zFor (gl : Gl) (f : Fs) (g it : E) (b : List Stmt → Bool) : Stmt → Bool
  | .For tg x xs ys _ => nilB ys && ((ck gl it).i f tg x && ((ck gl g).g f tg && b xs))
  | _ => false
def zWhile (gl : Gl) (f : Fs) (c : E) (b : List Stmt → Bool) : Stmt → Bool
  | .While x xs ys _ => nilB ys && ((ck gl c).e f x && b xs)
  | _ => false
def raiseE (gl : Gl) (f : Fs) (k : Nat) : Expr → Bool
  | .Call c args kws _ => (match c with
    | .Name n _ => (match args with
      | [] => false
      | a :: r => (match r with
        | _ :: _ => false
        | [] => (match a with
          | .Constant v _ _ => (match v with
            | .str _ => nilB kws && (isCls (gl.lookup n) k && isGl f n)
            | _ => false)
          | _ => false)))
    | _ => false)
  | _ => false
def zRaise (gl : Gl) (f : Fs) (k : Nat) : Stmt → Bool
  | .Raise x y _ => (match x with
    | some x => (match y with
      | none => raiseE gl f k x
      | some _ => false)
    | none => false)
  | _ => false
def hdlB (gl : Gl) (f : Fs) (c : Nat) (suite : List S) : ExceptHandler → Bool
  | .ExceptHandler t nm ys _ => (match t with
    | some t => (match t with
      | .Name n _ => (match nm with
        | none => (match ys with
          | y :: r => isCls (gl.lookup n) c && (isGl f n && (f.top && ckU f suite (y :: r)))
          | [] => false)
        | some _ => false)
      | _ => false)
    | none => false)
def zTry (gl : Gl) (f : Fs) (b : List Stmt → Bool) (c : Nat) (suite : List S) : Stmt → Bool
  | .Try xs hs ys zs _ => nilB ys && (nilB zs && (b xs && (match hs with
    | [] => false
    | h :: r => (match r with
      | [] => hdlB gl f c suite h
      | _ :: _ => false))))
  | _ => false
def strC : Expr → Bool
  | .Constant c _ _ => (match c with
    | .str _ => true
    | _ => false)
  | _ => false
def zPass : Stmt → Bool
  | .Pass _ => true
  | .Expr x _ => strC x
  | _ => false
def zBrk : Stmt → Bool
  | .Break _ => true
  | _ => false
def zCnt : Stmt → Bool
  | .Continue _ => true
  | _ => false
def zCup (gl : Gl) (f : Fs) (i : Nat) (e : E) : Stmt → Bool
  | .Assign ts x _ => (match ts with
    | [] => false
    | t :: r => (match r with
      | [] => (match t with
        | .Name n _ => slotB f i n && (locB f n && (callB x && (ck gl e).e f x))
        | _ => false)
      | _ :: _ => false))
  | _ => false
def zDput (gl : Gl) (f : Fs) (i : Nat) (k e : E) : Stmt → Bool
  | .Assign ts x _ => (match ts with
    | [] => false
    | t :: r => (match r with
      | [] => (match t with
        | .Subscript o y _ => (match o with
          | .Name n _ => slotB f i n && (visB f n && (nmOk n && ((ck gl k).e f y && (binB x && (ck gl e).e f x))))
          | _ => false)
        | _ => false)
      | _ :: _ => false))
  | _ => false
def zMove (f : Fs) (i j : Nat) : Stmt → Bool
  | .Assign ts x _ => (match ts with
    | [] => false
    | t :: r => (match r with
      | [] => (match t with
        | .Name n _ => (match x with
          | .Name m _ => slotB f i n && (locB f n && (slotB f j m && (visB f m && nmOk m)))
          | _ => false)
        | _ => false)
      | _ :: _ => false))
  | _ => false
/-- what matches no statement -/
def zLk (c : S) (a b : List Stmt → Bool) : List Stmt → Bool := match c with
  | .lock _ => a
  | _ => b
def zNil : List Stmt → Bool
  | [] => true
  | _ :: _ => false
def zCons (a : Stmt → Bool) (b : List Stmt → Bool) : List Stmt → Bool
  | [] => false
  | x :: xs => a x && b xs
mutual
def ckS (gl : Gl) (f : Fs) : S → Stmt → Bool
  | .asg g e => zAsg gl f g e
  | .par is es => zPar gl f is es
  | .ex e => zEx gl f e
  | .append i e => zApp gl f i e
  | .ret e => zRet gl f e
  | .ifs c a b => zIf gl f c (ckSs gl f a) (ckSs gl f b)
  | .for_ g it body => zFor gl f g it (ckSs gl f body)
  | .while_ c body => zWhile gl f c (ckSs gl f body)
  | .raise k => zRaise gl f k
  | .try_ body c suite => zTry gl f (ckSs gl f body) c suite
  | .pass => zPass
  | .brk => zBrk
  | .cnt => zCnt
  | .cupS i e => zCup gl f i e
  | .dput i k e => zDput gl f i k e
  | .lock _ => fun _ => false
  | .move i j => zMove f i j
def ckSs (gl : Gl) (f : Fs) : List S → List Stmt → Bool
  | [] => zNil
  | c :: cs => zLk c (ckSs gl f cs) (zCons (ckS gl f c) (ckSs gl f cs))
end
section
variable {L : Law} {n : Nat} {F : Fn} {gl : Gl}
theorem call_sw {x t : Expr} {l : Nat} {env : Env} (h : callB x = true) : swapsWithSole [t] x l env = pure false := by
  cases x with
  | Call _ _ _ _ => rfl
  | _ => cases h
theorem call_sw0 {x : Expr} {l : Nat} {env : Env} (h : callB x = true) : swapsWith x none l env = pure false := by
  cases x with
  | Call _ _ _ _ => rfl
  | _ => cases h
theorem call_st {x : Expr} {m : Str} {p : Pos} {env : Env} : swappedStores [.Name m p] x env = pure none := by
  cases x <;> rfl
theorem cnB_ok {d : D} {x : Expr} (h : cnB d x = true) : Con x d ∧ (∀ t l env, swapsWithSole [t] x l env = pure false) := by
  cases x with
  | Constant c j p =>
    refine ⟨?_, fun _ _ _ => rfl⟩
    have h : conB d c = true := h
    cases d with
    | int i => cases c with
      | int k => rw [of_decide_eq_true (show decide (i = k) = true from h)]; exact con_int
      | _ => cases h
    | str i => cases c with
      | str k => rw [of_decide_eq_true (show decide (i = k) = true from h)]; exact con_str
      | _ => cases h
    | bl i => cases c with
      | bool k => rw [of_decide_eq_true (show decide (i = k) = true from h)]; exact con_bl
      | _ => cases h
    | non => cases c with
      | none => exact con_non
      | _ => cases h
    | _ => cases c <;> cases h
  | _ => cases h
theorem ckU1_ok {P : Par} {f : Fs} {c : S} {x : Stmt} (h : ckU1 f c x = true) : (∀ {xs : List Stmt} {m : St → Out}, (isRetS c = true ∨ OkU L (f.frm n) xs m) → OkU L (f.frm n) (x :: xs) (fun s => (exec P F c s).then m)) ∧ (∀ s k s', exec P F c s ≠ .xc k s') ∧ (isRetS c = true → ∀ s m k s', ((exec P F c s).then m) ≠ .xc k s') := by
  unfold ckU1 at h
  split at h
  · rename_i i d m p e pos
    obtain ⟨h1, h2, h3⟩ := ba3 h
    obtain ⟨c1, c2⟩ := cnB_ok h3
    refine ⟨fun {xs m} t => ?_, fun s k s' hx => ?_, fun z => nomatch z⟩
    · rcases t with t | t
      · cases t
      · exact u_set (f := f.frm n) (of_decide_eq_true h1) (locB_ok h2).1 (locB_ok h2).2 c1 (fun env => c2 _ _ _) (fun env => call_st) t
    · have hx : ((if i < s.env.length then R.ok () (setS s i (.leaf d)) else .bad).out fun _ s => Out.nx s) = .xc k s' := hx
      by_cases hi : i < s.env.length
      · rw [if_pos hi] at hx; cases hx
      · rw [if_neg hi] at hx; cases hx
  · rename_i d e pos
    refine ⟨fun {xs m} t => u_ret (f := f.frm n) (cnB_ok h).1, fun s k s' hx => (nomatch hx), fun _ s m k s' hx => nomatch hx⟩
  · refine ⟨fun {xs m} t => ?_, fun s k s' hx => (nomatch hx), fun z => nomatch z⟩
    rcases t with t | t
    · cases t
    · exact u_pass t
  · cases h
theorem ckU_ok {P : Par} {f : Fs} : ∀ {cs : List S} {xs : List Stmt}, ckU f cs xs = true → OkU L (f.frm n) xs (execs P F cs) ∧ ∀ s c s', execs P F cs s ≠ .xc c s'
  | [], [], _ => ⟨u_nil, fun _ _ _ h => nomatch h⟩
  | [], _ :: _, h => nomatch h
  | _ :: _, [], h => nomatch h
  | c :: cs, x :: xs, h => by
    obtain ⟨h1, h2⟩ := ba (show (ckU1 f c x && (isRetS c || ckU f cs xs)) = true from h)
    obtain ⟨k1, k2, k3⟩ := ckU1_ok (L := L) (n := n) (F := F) (P := P) h1
    rw [Bool.or_eq_true] at h2
    rcases h2 with h2 | h2
    · exact ⟨k1 (.inl h2), fun s k s' => k3 h2 s _ k s'⟩
    · obtain ⟨t1, t2⟩ := ckU_ok h2
      refine ⟨k1 (.inr t1), fun s k s' hx => ?_⟩
      have hx : (exec P F c s).then (execs P F cs) = .xc k s' := hx
      cases q : exec P F c s with
      | nx s1 => rw [q] at hx; exact t2 _ _ _ hx
      | xc k' s1 => exact k2 _ _ _ q
      | bk s1 => rw [q] at hx; cases hx
      | ct s1 => rw [q] at hx; cases hx
      | rt b s1 => rw [q] at hx; cases hx
      | bad => rw [q] at hx; cases hx
theorem isCls_ok (G : GlOk L n F gl) {m : Str} {k : Nat} (h : isCls (gl.lookup m) k = true) : RaiseOk L k m := by
  cases q : gl.lookup m with
  | none => rw [q] at h; cases h
  | some g =>
    rw [q] at h
    cases g with
    | cls j =>
      obtain rfl := of_decide_eq_true (show decide (j = k) = true from h)
      exact G m _ q
    | _ => cases h
theorem asg_ok (G : GlOk L n F gl) {P : Par} {f : Fs} {g e : E} {t x : Expr} {pos : Pos} (h : asgB gl f g e t x = true) : OkS L (f.frm n) (.Assign [t] x pos) (exec P F (.asg g e)) := by
  unfold asgB at h
  by_cases hs : swB f.sc x t = true
  · rw [if_pos hs] at h
    match g, e, t, x, h with
    | .var i, .comp vs g' it c e', .Name y py, .ListComp elt [⟨tg, iter, ifs, 0⟩] scope cp, h =>
      obtain ⟨h1, h2, h3, h4, h5⟩ := ba5 h
      obtain ⟨h5, h6⟩ := ba h5
      refine s_setLc (f := f.frm n) (of_decide_eq_true h1) (isLocal_ok h2) (of_decide_eq_true h3) h4 (by rw [Bool.not_eq_true'] at h5; exact h5) (k_compB (ck_ok G g') (ck_ok G it) (ck_ok G c) (ck_ok G e') (fun hc => ?_) h6)
      unfold isTrueC at hc
      split at hc
      · rfl
      · cases hc
    | .var i, .comp2 vs vs1 g' it c g1 it1 c1 e', .Name y py, .ListComp elt [⟨tg, iter, ifs, 0⟩, ⟨tg1, iter1, ifs1, 0⟩] scope cp, h =>
      obtain ⟨h1, h2, h3, h4, h5⟩ := ba5 h
      obtain ⟨h5, h6⟩ := ba h5
      exact s_setLc2 (f := f.frm n) (of_decide_eq_true h1) (isLocal_ok h2) (of_decide_eq_true h3) h4 (by rw [Bool.not_eq_true'] at h5; exact h5) (k_comp2B (ck_ok G g') (ck_ok G it) (ck_ok G c) (ck_ok G g1) (ck_ok G it1) (ck_ok G c1) (ck_ok G e') isT isT h6)
  · rw [if_neg hs] at h
    obtain ⟨h1, h2, h3⟩ := ba3 h
    have hs' : swB f.sc x t = false := by simpa using hs
    exact s_asg ((ck_ok G e).e f x h2) ((ck_ok G g).a f t h3) (fun env he => swB_ok hs' he) fun env he => swN_ok h1 he
theorem par_ok (G : GlOk L n F gl) {P : Par} {f : Fs} {is : List Nat} {es : List E} {ts vs : List Expr} {k k2 : Nat} {p p2 pos : Pos} (h : kPar f is (ckl gl es) ts vs = true) : OkS L (f.frm n) (.Assign [.Tuple ts k p] (.Tuple vs k2 p2) pos) (exec P F (.par is es)) := by
  obtain ⟨h1, h2⟩ := ba h
  have K := ckl_ok G es
  have O := K.es f vs h1
  cases q : swS f.sc ts vs with
  | none => rw [q] at h2; cases h2
  | some r =>
    rw [q] at h2
    cases r with
    | none =>
      obtain ⟨h3, h4⟩ := ba h2
      exact s_parN (nmsB_ok h3) O (by rw [← K.length]; exact of_decide_eq_true h4) fun env he => swS_ok q he
    | some ns =>
      dsimp only at h2
      split at h2
      · rename_i i j x px y py k1 kk2 v1 v2 eks
        obtain ⟨h3, h4, h5, h6, h7⟩ := ba5 h2
        obtain ⟨h7, h8⟩ := ba h7
        obtain rfl := of_decide_eq_true h3
        generalize hms : evs F es = ms at O
        cases O with
        | cons ha t => cases t with
          | cons hb t =>
            cases t
            have := s_par2 (f := f.frm n) (pos := pos) (kt := k) (pt := p) (k2 := k2) (pt2 := p2) (px := px) (py := py) (of_decide_eq_true h4) (of_decide_eq_true h5) (of_decide_eq_true h6) (isLocal_ok h7) (isLocal_ok h8) ha hb fun env he => swS_ok q he
            rw [← hms] at this
            exact this
      · rename_i i j l x px y py z pz k1 kk2 k3 v1 v2 v3 eks
        obtain ⟨h3, h4, h5, h6, h7⟩ := ba5 h2
        obtain ⟨h7, h8, h9, h10, h11⟩ := ba5 h7
        obtain ⟨h11, h12⟩ := ba h11
        obtain rfl := of_decide_eq_true h3
        generalize hms : evs F es = ms at O
        cases O with
        | cons ha t => cases t with
          | cons hb t => cases t with
            | cons hc t =>
              cases t
              have := s_par3 (f := f.frm n) (pos := pos) (kt := k) (pt := p) (k2 := k2) (pt2 := p2) (px := px) (py := py) (pz := pz) (of_decide_eq_true h4) (of_decide_eq_true h5) (of_decide_eq_true h6) (of_decide_eq_true h7) (of_decide_eq_true h8) (of_decide_eq_true h9) (isLocal_ok h10) (isLocal_ok h11) (isLocal_ok h12) ha hb hc fun env he => swS_ok q he
              rw [← hms] at this
              exact this
      · cases h2
theorem ret_ok (G : GlOk L n F gl) {P : Par} {f : Fs} {e : E} {x : Option Expr} {pos : Pos} (h : retB' gl f e x = true) : OkS L (f.frm n) (.Return x pos) (exec P F (.ret e)) := by
  cases x with
  | none =>
    unfold retB' at h
    dsimp only at h
    split at h
    · exact s_retN
    · cases h
  | some y =>
    unfold retB' at h
    dsimp only at h
    split at h
    · rename_i i
      cases y with
      | Name m p =>
        obtain ⟨h1, h2, h3⟩ := ba3 h
        exact s_retV (f := f.frm n) (of_decide_eq_true h1) (visB_ok h2) (nmOk_ok h3).1 (nmOk_ok h3).2
      | _ => cases h
    · rename_i hv
      have := s_ret (pos := pos) ((ck_ok G e).e f y h)
      have e2 : exec P F (.ret e) = fun s => ((ev F e).b s).out fun b s => Out.rt b s := by
        funext s
        show (retB F e s).out _ = _
        unfold retB
        split
        · exact absurd rfl (hv _)
        · rfl
      rw [e2]
      exact this
theorem app_ok (G : GlOk L n F gl) {P : Par} {f : Fs} {i : Nat} {e : E} {x : Expr} {pos : Pos} (h : appE gl f i e x = true) : OkS L (f.frm n) (.Expr x pos) (exec P F (.append i e)) := by
  cases x with
  | Call c args kws cp =>
    cases args with
    | nil => cases h
    | cons y r =>
      cases r with
      | cons _ _ => cases h
      | nil =>
        cases kws with
        | cons _ _ => cases h
        | nil =>
          cases c with
          | Attribute o m ap =>
            cases o with
            | Name nm p =>
              have h : (slotB f i nm && (visB f nm && (nmOk nm && (decide (m = ("append" : Str)) && ((ap.endLine == cp.line) && (ck gl e).e f y))))) = true := h
              obtain ⟨h1, h2, h3, h4, h5⟩ := ba5 h
              obtain ⟨h5, h6⟩ := ba h5
              obtain rfl := of_decide_eq_true h4
              exact s_append (f := f.frm n) (of_decide_eq_true h1) (visB_ok h2) (nmOk_ok h3).1 (nmOk_ok h3).2 ((ck_ok G e).e f y h6) h5
            | _ => cases h
          | _ => cases h
  | _ => cases h
theorem nil_of {α : Type} {l : List α} (h : nilB l = true) : l = [] := by
  cases l with
  | nil => rfl
  | cons _ _ => cases h
theorem zAsg_ok (G : GlOk L n F gl) {P : Par} {f : Fs} {g e : E} {x : Stmt} (h : zAsg gl f g e x = true) : OkS L (f.frm n) x (exec P F (.asg g e)) := by
  cases x with
  | Assign ts x p => cases ts with
    | nil => cases h
    | cons t r => cases r with
      | nil => exact asg_ok G h
      | cons _ _ => cases h
  | _ => cases h
theorem zPar_ok (G : GlOk L n F gl) {P : Par} {f : Fs} {is : List Nat} {es : List E} {x : Stmt} (h : zPar gl f is es x = true) : OkS L (f.frm n) x (exec P F (.par is es)) := by
  cases x with
  | Assign ts x p => cases ts with
    | nil => cases h
    | cons t r => cases r with
      | nil => cases t with
        | Tuple ts k p => cases x with
          | Tuple vs k p => exact par_ok G h
          | _ => cases h
        | _ => cases h
      | cons _ _ => cases h
  | _ => cases h
theorem zEx_ok (G : GlOk L n F gl) {P : Par} {f : Fs} {e : E} {x : Stmt} (h : zEx gl f e x = true) : OkS L (f.frm n) x (exec P F (.ex e)) := by
  cases x with
  | Expr x p => exact s_ex ((ck_ok G e).e f x (ba h).2) fun env => call_sw0 (ba h).1
  | _ => cases h
theorem zApp_ok (G : GlOk L n F gl) {P : Par} {f : Fs} {i : Nat} {e : E} {x : Stmt} (h : zApp gl f i e x = true) : OkS L (f.frm n) x (exec P F (.append i e)) := by
  cases x with
  | Expr x p => exact app_ok G h
  | _ => cases h
theorem zRet_ok (G : GlOk L n F gl) {P : Par} {f : Fs} {e : E} {x : Stmt} (h : zRet gl f e x = true) : OkS L (f.frm n) x (exec P F (.ret e)) := by
  cases x with
  | Return x p => exact ret_ok G h
  | _ => cases h
theorem zIf_ok (G : GlOk L n F gl) {P : Par} {f : Fs} {c : E} {a b : List S} {x : Stmt} (h : zIf gl f c (ckSs gl f a) (ckSs gl f b) x = true) (ha : ∀ xs, ckSs gl f a xs = true → OkSs L (f.frm n) xs (execs P F a)) (hb : ∀ xs, ckSs gl f b xs = true → OkSs L (f.frm n) xs (execs P F b)) : OkS L (f.frm n) x (exec P F (.ifs c a b)) := by
  cases x with
  | If x xs ys p =>
    obtain ⟨h1, h2, h3⟩ := ba3 h
    exact s_if ((ck_ok G c).e f x h1) (ha xs h2) (hb ys h3)
  | _ => cases h
theorem zFor_ok (G : GlOk L n F gl) {P : Par} {f : Fs} {g it : E} {b : List S} {x : Stmt} (h : zFor gl f g it (ckSs gl f b) x = true) (hb : ∀ xs, ckSs gl f b xs = true → OkSs L (f.frm n) xs (execs P F b)) : OkS L (f.frm n) x (exec P F (.for_ g it b)) := by
  cases x with
  | For tg x xs ys p =>
    obtain ⟨h0, h1, h2, h3⟩ := ba4 h
    rw [nil_of h0]
    exact s_for ((ck_ok G it).i f tg x h1) ((ck_ok G g).g f tg h2) (hb xs h3)
  | _ => cases h
theorem zWhile_ok (G : GlOk L n F gl) {P : Par} {f : Fs} {c : E} {b : List S} {x : Stmt} (h : zWhile gl f c (ckSs gl f b) x = true) (hb : ∀ xs, ckSs gl f b xs = true → OkSs L (f.frm n) xs (execs P F b)) : OkS L (f.frm n) x (exec P F (.while_ c b)) := by
  cases x with
  | While x xs ys p =>
    obtain ⟨h0, h1, h2⟩ := ba3 h
    rw [nil_of h0]
    exact s_while ((ck_ok G c).e f x h1) (hb xs h2)
  | _ => cases h
theorem zRaise_ok (G : GlOk L n F gl) {P : Par} {f : Fs} {k : Nat} {x : Stmt} (h : zRaise gl f k x = true) : OkS L (f.frm n) x (exec P F (.raise k)) := by
  cases x with
  | Raise x y p => cases x with
    | none => cases h
    | some x => cases y with
      | some _ => cases h
      | none => cases x with
        | Call c args kws q => cases c with
          | Name m p => cases args with
            | nil => cases h
            | cons a r => cases r with
              | cons _ _ => cases h
              | nil => cases a with
                | Constant v j p2 => cases v with
                  | str y =>
                    obtain ⟨h1, h2, h3⟩ := ba3 (show (nilB kws && (isCls (gl.lookup m) k && isGl f m)) = true from h)
                    rw [nil_of h1]
                    exact s_raise (f := f.frm n) (isCls_ok G h2) (isGl_ok h3)
                  | _ => cases h
                | _ => cases h
          | _ => cases h
        | _ => cases h
  | _ => cases h
theorem zTry_ok (G : GlOk L n F gl) {P : Par} (hx : ∀ j k b, P.xm j k = some b → PySem.W.exmOne L.Γ.K (.ref (L.Γ.ca j)) (.ref (L.Γ.ca k)) = some b) {f : Fs} {b : List S} {c : Nat} {suite : List S} {x : Stmt} (h : zTry gl f (ckSs gl f b) c suite x = true)
    (hb : ∀ xs, ckSs gl f b xs = true → OkSs L (f.frm n) xs (execs P F b)) : OkS L (f.frm n) x (exec P F (.try_ b c suite)) := by
  cases x with
  | Try xs hs ys zs p =>
    obtain ⟨h1, h2, h3, h4⟩ := ba4 h
    rw [nil_of h1, nil_of h2]
    cases hs with
    | nil => cases h4
    | cons hd r => cases r with
      | cons _ _ => cases h4
      | nil =>
        cases hd with
        | ExceptHandler t nm ys p2 => cases t with
          | none => cases h4
          | some t => cases t with
            | Name m p3 => cases nm with
              | some _ => cases h4
              | none => cases ys with
                | nil => cases h4
                | cons y r =>
                  obtain ⟨k1, k2, k3, k4⟩ := ba4 (show (isCls (gl.lookup m) c && (isGl f m && (f.top && ckU f suite (y :: r)))) = true from h4)
                  have rr := isCls_ok G k1
                  obtain ⟨u1, u2⟩ := ckU_ok (L := L) (n := n) (F := F) (P := P) k4
                  exact s_try (f := f.frm n) k3 (isGl_ok k2) rr.mg rr.db (fun j b e => hx j c b e) (hb xs h3) u1 u2
            | _ => cases h4
  | _ => cases h
theorem zPass_ok {P : Par} {f : Fs} {x : Stmt} (h : zPass x = true) : OkS L (f.frm n) x (exec P F .pass) := by
  cases x with
  | Pass p => exact s_pass
  | Expr e p => cases e with
    | Constant c j p => cases c with
      | str y => exact s_doc
      | _ => cases h
    | _ => cases h
  | _ => cases h
theorem zBrk_ok {P : Par} {f : Fs} {x : Stmt} (h : zBrk x = true) : OkS L (f.frm n) x (exec P F .brk) := by
  cases x with
  | Break p => exact s_brk
  | _ => cases h
theorem zCnt_ok {P : Par} {f : Fs} {x : Stmt} (h : zCnt x = true) : OkS L (f.frm n) x (exec P F .cnt) := by
  cases x with
  | Continue p => exact s_cnt
  | _ => cases h
theorem zCup_ok (G : GlOk L n F gl) {P : Par} {f : Fs} {i : Nat} {e : E} {x : Stmt} (h : zCup gl f i e x = true) : OkS L (f.frm n) x (exec P F (.cupS i e)) := by
  cases x with
  | Assign ts x p => cases ts with
    | nil => cases h
    | cons t r => cases r with
      | nil => cases t with
        | Name m p2 =>
          obtain ⟨h1, h2, h3, h4⟩ := ba4 (show (slotB f i m && (locB f m && (callB x && (ck gl e).e f x))) = true from h)
          exact s_cup (f := f.frm n) (of_decide_eq_true h1) (locB_ok h2).1 (locB_ok h2).2 ((ck_ok G e).e f x h4) (fun env => call_sw h3) fun env => call_st
        | _ => cases h
      | cons _ _ => cases h
  | _ => cases h
theorem zDput_ok (G : GlOk L n F gl) {P : Par} {f : Fs} {i : Nat} {k e : E} {x : Stmt} (h : zDput gl f i k e x = true) : OkS L (f.frm n) x (exec P F (.dput i k e)) := by
  cases x with
  | Assign ts x p => cases ts with
    | nil => cases h
    | cons t r => cases r with
      | nil => cases t with
        | Subscript o y p2 => cases o with
          | Name m p3 =>
            obtain ⟨h1, h2, h3, h4, h5⟩ := ba5 (show (slotB f i m && (visB f m && (nmOk m && ((ck gl k).e f y && (binB x && (ck gl e).e f x))))) = true from h)
            obtain ⟨h5, h6⟩ := ba h5
            exact s_dput (f := f.frm n) (of_decide_eq_true h1) (visB_ok h2) (nmOk_ok h3).1 (nmOk_ok h3).2 ((ck_ok G k).e f y h4) ((ck_ok G e).e f x h6) fun env he => binB_ok h5
          | _ => cases h
        | _ => cases h
      | cons _ _ => cases h
  | _ => cases h
theorem zMove_ok {P : Par} {f : Fs} {i j : Nat} {x : Stmt} (h : zMove f i j x = true) : OkS L (f.frm n) x (exec P F (.move i j)) := by
  cases x with
  | Assign ts x p => cases ts with
    | nil => cases h
    | cons t r => cases r with
      | nil => cases t with
        | Name m p2 => cases x with
          | Name m2 p3 =>
            obtain ⟨h1, h2, h3, h4, h5⟩ := ba5 (show (slotB f i m && (locB f m && (slotB f j m2 && (visB f m2 && nmOk m2)))) = true from h)
            exact s_move (f := f.frm n) (of_decide_eq_true h1) (locB_ok h2).1 (locB_ok h2).2 (of_decide_eq_true h3) (visB_ok h4) (nmOk_ok h5).1 (nmOk_ok h5).2
          | _ => cases h
        | _ => cases h
      | cons _ _ => cases h
  | _ => cases h
theorem cons_ok {P : Par} {f : Fs} {c : S} {cs : List S} {k : Stmt → Bool} {a : List Stmt → Bool} {xs : List Stmt} (h : zLk c a (zCons k a) xs = true) (hk : ∀ x, k x = true → OkS L (f.frm n) x (exec P F c)) (ha : ∀ xs, a xs = true → OkSs L (f.frm n) xs (execs P F cs)) : OkSs L (f.frm n) xs (execs P F (c :: cs)) := by
  have go : zCons k a xs = true → OkSs L (f.frm n) xs (execs P F (c :: cs)) := fun h => by
    cases xs with
    | nil => cases h
    | cons x xs => exact ss_cons (hk x (ba (show (k x && a xs) = true from h)).1) (ha xs (ba (show (k x && a xs) = true from h)).2)
  cases c with
  | lock i => exact ss_lock (ha xs h)
  | _ => exact go h
mutual
theorem ckS_ok (G : GlOk L n F gl) {P : Par} (hx : ∀ j k b, P.xm j k = some b → PySem.W.exmOne L.Γ.K (.ref (L.Γ.ca j)) (.ref (L.Γ.ca k)) = some b) (f : Fs) : ∀ (c : S) (x : Stmt), ckS gl f c x = true → OkS L (f.frm n) x (exec P F c)
  | .asg g e, x, h => zAsg_ok G h
  | .par is es, x, h => zPar_ok G h
  | .ex e, x, h => zEx_ok G h
  | .append i e, x, h => zApp_ok G h
  | .ret e, x, h => zRet_ok G h
  | .ifs c a b, x, h => zIf_ok G h (ckSs_ok G hx f a) (ckSs_ok G hx f b)
  | .for_ g it body, x, h => zFor_ok G h (ckSs_ok G hx f body)
  | .while_ c body, x, h => zWhile_ok G h (ckSs_ok G hx f body)
  | .raise k, x, h => zRaise_ok G h
  | .try_ body c suite, x, h => zTry_ok G hx h (ckSs_ok G hx f body)
  | .pass, x, h => zPass_ok h
  | .brk, x, h => zBrk_ok h
  | .cnt, x, h => zCnt_ok h
  | .cupS i e, x, h => zCup_ok G h
  | .dput i k e, x, h => zDput_ok G h
  | .lock _, x, h => nomatch h
  | .move i j, x, h => zMove_ok h
theorem ckSs_ok (G : GlOk L n F gl) {P : Par} (hx : ∀ j k b, P.xm j k = some b → PySem.W.exmOne L.Γ.K (.ref (L.Γ.ca j)) (.ref (L.Γ.ca k)) = some b) (f : Fs) : ∀ (cs : List S) (xs : List Stmt), ckSs gl f cs xs = true → OkSs L (f.frm n) xs (execs P F cs)
  | [], [], h => ss_nil
  | [], _ :: _, h => nomatch h
  | c :: cs, xs, h => cons_ok h (ckS_ok G hx f c) (ckSs_ok G hx f cs)
end
end
end Ev

/-! a law's defs all together, over a head's facts -/
namespace Ev
open PySem PySem.Spec PyProof.Rows L2
/-- a def of the row: where it stands, its names (the parameters first), its term -/
structure DefI where
  d : He.DefD
  N : List Str
  ps : List Str
  df : Df
def DefI.Bd (D : DefI) : Prop := ∀ (kV doc pm : Value) (an : Option Addr) (cdv ct : Value) (us : List Value), us.length = D.ps.length → bindArgs (PySem.W.fnOf D.d.name D.d.qual D.d.params D.d.body D.d.scope .none kV doc pm an cdv ct) ⟨us, []⟩ = pure (D.ps.zip us)
def scB (N ps : List Str) (sc : Scope) : Bool :=
  decide (sc.kind = .function) && (!sc.isCoroutine && (!sc.isGenerator && (decide N.Nodup && (decide (N.take ps.length = ps) && (ps.all (fun x => match sc.names.lookup x with
    | some .local => true
    | some .cell => true
    | _ => false) && sc.names.all fun y => decide (y.2 ≠ .free))))))
theorem scB_ok {N ps : List Str} {sc : Scope} (h : scB N ps sc = true) : FnScope N ps sc := by
  obtain ⟨h1, h2, h3, h4, h5⟩ := ba5 h
  obtain ⟨h5, h6, h7⟩ := ba3 h5
  refine ⟨of_decide_eq_true h1, by simpa using h2, by simpa using h3, of_decide_eq_true h4, of_decide_eq_true h5, fun x hx => ?_, fun y hy => of_decide_eq_true (List.all_eq_true.mp h7 y hy)⟩
  have q := List.all_eq_true.mp h6 x hx
  split at q
  · exact .inl (by assumption)
  · exact .inr (by assumption)
  · cases q
def DefI.plainB (D : DefI) : Bool := decide (D.d.at_ = (D.d.name, none)) && (nilB D.d.dfl && (scB D.N D.ps D.d.scope && (decide (D.df.np = D.ps.length) && (decide (D.df.ns = D.N.length) && !(D.d.name == ("__debug__" : Str))))))
def DefI.fs (D : DefI) : Fs := ⟨D.N, D.d.scope, fun _ => true, true⟩
def DefI.bodyB (gl : Gl) (D : DefI) : Bool := ckSs gl D.fs D.df.body D.d.body
def hasGlo (fa : List He.Fa) (x : Str) : Bool := fa.any fun f => match f with
  | .glo y => decide (y = x)
  | _ => false
def hasFree (fa : List He.Fa) (x : Str) : Bool := fa.any fun f => match f with
  | .free y => decide (y = x)
  | _ => false
def hasInt (fa : List He.Fa) (x : Str) (v : Int) : Bool := fa.any fun f => match f with
  | .int y i => decide (y = x) && decide (i = v)
  | _ => false
def hasStr (fa : List He.Fa) (x v : Str) : Bool := fa.any fun f => match f with
  | .str y i => decide (y = x) && decide (i = v)
  | _ => false
def hasExc (fa : List He.Fa) (x : Str) : Bool := fa.any fun f => match f with
  | .exc y => decide (y = x)
  | _ => false
def hasExm (fa : List He.Fa) (x y : Str) (b : Bool) : Bool := fa.any fun f => match f with
  | .exm u v c => decide (u = x) && (decide (v = y) && decide (c = b))
  | _ => false
/-- the names of the top: defs by their index, classes by theirs -/
def glB (fa : List He.Fa) (defs : List DefI) (cn : List Str) (gl : Gl) : Bool := gl.all fun q => match q.2 with
  | .fn i np => hasGlo fa q.1 && (match defs[i]? with
    | some D => decide (D.d.name = q.1) && decide (D.df.np = np)
    | none => false)
  | .cls k => hasGlo fa q.1 && (hasExc fa q.1 && (decide (cn[k]? = some q.1) && !(q.1 == ("__debug__" : Str))))
  | .int v => hasInt fa q.1 v
  | .str v => hasStr fa q.1 v
  | .free => hasFree fa q.1
/-- which class takes which -/
def xmOf (xs : List (Nat × Nat × Bool)) : Nat → Nat → Option Bool := fun j k => match xs.find? fun q => decide (q.1 = j) && decide (q.2.1 = k) with
  | some q => some q.2.2
  | none => none
def xmB (fa : List He.Fa) (cn : List Str) (xs : List (Nat × Nat × Bool)) : Bool := xs.all fun q => match cn[q.1]?, cn[q.2.1]? with
  | some x, some y => hasExm fa x y q.2.2
  | _, _ => false
section
variable {K : PySem.W.Frag} {h : Heap} {mg : Str → Option Value} {fa : List He.Fa} {fn : List He.DefD} {defs : List DefI} {cn : List Str} {gl : Gl} {xs : List (Nat × Nat × Bool)}
def gamOf (K : PySem.W.Frag) (defs : List DefI) (cn : List Str) : Gam := ⟨K, fun i => (defs[i]?).map fun D => He.fAd K D.d.at_, fun k => He.ga K (cn.getD k "")⟩
theorem fact_of (c : He.SaysD fa fn K) {f : He.Fa} (h : f ∈ fa) : f.ok K = true := by
  obtain ⟨i, hi⟩ := List.getElem?_of_mem h
  exact c.fact i hi
theorem glo_of (X : K.In h) (G : h.Ns mainGlobals mg) (c : He.SaysD fa fn K) {x : Str} (q : hasGlo fa x = true) : mg x = some (.ref (He.ga K x)) := by
  obtain ⟨f, hf, e⟩ := List.any_eq_true.mp q
  split at e
  · obtain rfl := of_decide_eq_true e
    exact He.glo_ok X G (fact_of c hf)
  · cases e
theorem free_of (X : K.In h) (G : h.Ns mainGlobals mg) (c : He.SaysD fa fn K) {x : Str} (q : hasFree fa x = true) : mg x = none := by
  obtain ⟨f, hf, e⟩ := List.any_eq_true.mp q
  split at e
  · obtain rfl := of_decide_eq_true e
    exact He.free_ok X G (fact_of c hf)
  · cases e
theorem int_of (X : K.In h) (G : h.Ns mainGlobals mg) (c : He.SaysD fa fn K) {x : Str} {v : Int} (q : hasInt fa x v = true) : ∃ u, mg x = some u ∧ RelV (.int v) u := by
  obtain ⟨f, hf, e⟩ := List.any_eq_true.mp q
  split at e
  · obtain ⟨e1, e2⟩ := ba e
    obtain rfl := of_decide_eq_true e1
    obtain rfl := of_decide_eq_true e2
    obtain ⟨t, e⟩ := He.int_ok X G (fact_of c hf)
    exact ⟨_, e, t, rfl⟩
  · cases e
theorem str_of (X : K.In h) (G : h.Ns mainGlobals mg) (c : He.SaysD fa fn K) {x v : Str} (q : hasStr fa x v = true) : ∃ u, mg x = some u ∧ RelV (.str v) u := by
  obtain ⟨f, hf, e⟩ := List.any_eq_true.mp q
  split at e
  · obtain ⟨e1, e2⟩ := ba e
    obtain rfl := of_decide_eq_true e1
    obtain rfl := of_decide_eq_true e2
    obtain ⟨t, e⟩ := He.str_ok X G (fact_of c hf)
    exact ⟨_, e, t, rfl⟩
  · cases e
theorem exm_of (c : He.SaysD fa fn K) {x y : Str} {b : Bool} (q : hasExm fa x y b = true) : PySem.W.exmOne K (.ref (He.ga K x)) (.ref (He.ga K y)) = some b := by
  obtain ⟨f, hf, e⟩ := List.any_eq_true.mp q
  split at e
  · obtain ⟨e1, e2, e3⟩ := ba3 e
    obtain rfl := of_decide_eq_true e1
    obtain rfl := of_decide_eq_true e2
    obtain rfl := of_decide_eq_true e3
    exact He.exm_ok (fact_of c hf)
  · cases e
theorem exc_of (X : K.In h) (G : h.Ns mainGlobals mg) (c : He.SaysD fa fn K) {P : Program} {w : World} {base : Heap} {x : Str} {k : Nat} (q1 : hasGlo fa x = true) (q2 : hasExc fa x = true) (q3 : cn[k]? = some x) (q4 : (x == ("__debug__" : Str)) = false) : RaiseOk ⟨P, w, mg, base, gamOf K defs cn⟩ k x := by
  have ea : (gamOf K defs cn).ca k = He.ga K x := by
    show He.ga K (cn.getD k "") = _
    rw [List.getD_eq_getElem?_getD, q3]; rfl
  obtain ⟨f, hf, e⟩ := List.any_eq_true.mp q2
  split at e
  · rename_i y
    obtain rfl := of_decide_eq_true e
    obtain ⟨f1, f2, f3, f4⟩ := He.exc_ok (fact_of c hf)
    refine ⟨?_, ⟨He.veBase, _, _, _, PySem.F.excBase_ValueError, ?_⟩, ?_, ?_, ?_, q4⟩
    · show mg y = some (.ref ((gamOf K defs cn).ca k)); rw [ea]; exact glo_of X G c q1
    · show PySem.W.excIn K ((gamOf K defs cn).ca k) _ _ = true; rw [ea]; exact f1
    · show PySem.W.keepIn K (.ref ((gamOf K defs cn).ca k)) = true; rw [ea]; exact f2
    · show PySem.W.subIn K (.ref ((gamOf K defs cn).ca k)) _ = _; rw [ea]; exact f3
    · show PySem.W.typeIn K (.ref ((gamOf K defs cn).ca k)) = _; rw [ea]; exact f4
  · cases e
/-- all checks of a law but the bodies -/
def topB (fa : List He.Fa) (defs : List DefI) (cn : List Str) (gl : Gl) (xs : List (Nat × Nat × Bool)) : Bool := glB fa defs cn gl && (xmB fa cn xs && defs.all fun D => D.plainB && hasGlo fa D.d.name)
theorem lookup_mem {α : Type} : ∀ {l : List (Str × α)} {x : Str} {a : α}, l.lookup x = some a → (x, a) ∈ l
  | [], _, _, h => by cases h
  | (y, b) :: r, x, a, h => by
    rw [List.lookup_cons] at h
    by_cases e : (x == y) = true
    · rw [e] at h
      cases h
      rw [eq_of_beq e]
      exact List.mem_cons_self
    · rw [show (x == y) = false by simpa using e] at h
      exact List.mem_cons_of_mem _ (lookup_mem h)
variable {P : Program} {w : World} {base : Heap} {wn : Nat}
abbrev tbOf (defs : List DefI) : Nat → Option Df := fun i => (defs[i]?).map (·.df)
abbrev parOf (wn : Nat) (xs : List (Nat × Nat × Bool)) : Par := ⟨wn, xmOf xs⟩
theorem def_at (c : He.SaysD fa (defs.map (·.d)) K) {i : Nat} {D : DefI} (hD : defs[i]? = some D) (hp : D.plainB = true) : ∃ fd, FunD K D.d.name D.d.qual D.d.params D.d.body D.d.scope [] (D.d.kws K) (He.ga K D.d.name) fd := by
  obtain ⟨p1, p2, _⟩ := ba3 hp
  obtain ⟨fd, F⟩ := c.def_ i (d := D.d) (by rw [List.getElem?_map, hD]; rfl)
  have e1 : D.d.dvs K = [] := by
    show D.d.dfl.map _ = []
    rw [nil_of p2]; rfl
  have e2 : He.fAd K D.d.at_ = He.ga K D.d.name := by rw [of_decide_eq_true p1]; rfl
  rw [e1, e2] at F
  exact ⟨fd, F⟩
theorem xm_ok (c : He.SaysD fa fn K) (t2 : xmB fa cn xs = true) : ∀ j k b, (parOf wn xs).xm j k = some b → PySem.W.exmOne (gamOf K defs cn).K (.ref ((gamOf K defs cn).ca j)) (.ref ((gamOf K defs cn).ca k)) = some b := fun j k b e => by
    have e : (match xs.find? fun q => decide (q.1 = j) && decide (q.2.1 = k) with
      | some q => some q.2.2
      | none => none) = some b := e
    split at e
    · rename_i q hq
      cases e
      have h1 := List.find?_some hq
      have h2 := List.mem_of_find?_eq_some hq
      obtain ⟨h3, h4⟩ := ba h1
      have h5 := List.all_eq_true.mp t2 q h2
      split at h5
      · rename_i x y hx hy
        rw [of_decide_eq_true h3] at hx
        rw [of_decide_eq_true h4] at hy
        have := exm_of c h5
        have ex : (gamOf K defs cn).ca j = He.ga K x := by
          show He.ga K (cn.getD j "") = _
          rw [List.getD_eq_getElem?_getD, hx]; rfl
        have ey : (gamOf K defs cn).ca k = He.ga K y := by
          show He.ga K (cn.getD k "") = _
          rw [List.getD_eq_getElem?_getD, hy]; rfl
        rw [ex, ey]
        exact this
      · cases h5
    · cases e
theorem top_ok (X : K.In h) (G : h.Ns mainGlobals mg) (c : He.SaysD fa (defs.map (·.d)) K) (ht : topB fa defs cn gl xs = true) (hbd : ∀ D ∈ defs, D.Bd) (hbody : ∀ D ∈ defs, D.bodyB gl = true) :
    ∀ n, GlOk ⟨P, w, mg, base, gamOf K defs cn⟩ n (callF (tbOf defs) (parOf wn xs) n) gl := by
  obtain ⟨t1, t2, t3⟩ := ba3 ht
  have hxm := xm_ok (defs := defs) (wn := wn) c t2
  -- what does not lean on the level
  have flat : ∀ n (F : Fn) x k, gl.lookup x = some k → (∀ i np, k ≠ .fn i np) → GkOk ⟨P, w, mg, base, gamOf K defs cn⟩ n F x k := fun n F x k hk hn => by
    have q := List.all_eq_true.mp t1 _ (lookup_mem hk)
    cases k with
    | fn i np => exact absurd rfl (hn i np)
    | cls j =>
      obtain ⟨q1, q2, q3, q4⟩ := ba4 q
      exact exc_of X G c q1 q2 (of_decide_eq_true q3) (by simpa using q4)
    | int v => exact int_of X G c q
    | str v => exact str_of X G c q
    | free => exact free_of X G c q
  have fnq : ∀ x i np, gl.lookup x = some (.fn i np) → ∃ D, defs[i]? = some D ∧ D.d.name = x ∧ D.df.np = np ∧ D ∈ defs ∧ mg x = some (.ref (He.ga K x)) := fun x i np hk => by
    have q := List.all_eq_true.mp t1 _ (lookup_mem hk)
    obtain ⟨q1, q2⟩ := ba q
    cases hD : defs[i]? with
    | none => rw [hD] at q2; cases q2
    | some D =>
      rw [hD] at q2
      obtain ⟨q3, q4⟩ := ba q2
      exact ⟨D, rfl, of_decide_eq_true q3, of_decide_eq_true q4, List.mem_of_getElem? hD, glo_of X G c q1⟩
  intro n
  induction n with
  | zero =>
    intro x k hk
    by_cases hf : ∃ i np, k = .fn i np
    · obtain ⟨i, np, rfl⟩ := hf
      obtain ⟨D, hD, rfl, rfl, hm, hmg⟩ := fnq x i np hk
      have hp := (ba (List.all_eq_true.mp t3 D hm)).1
      obtain ⟨p1, p2, p3, p4, p5⟩ := ba5 hp
      obtain ⟨p5, p6⟩ := ba p5
      obtain ⟨fd, F⟩ := def_at c hD hp
      refine ⟨⟨He.ga K D.d.name, fd, D.ps, hmg, F.kp, F.bindsN (hbd D hm), ⟨fun vs H Q E hh => ?_, fun A outer s H args us vs Q E _ _ _ _ hh => ?_⟩⟩, by simpa using p6⟩
      · obtain ⟨κ, H0, σ, s, g, ds, _, _, _, _, z⟩ := hh
        exact z.elim
      · obtain ⟨κ, H0, σ, s, g, ds, _, _, _, _, z⟩ := hh
        exact z.elim
    · exact flat 0 _ x k hk fun i np e => hf ⟨i, np, e⟩
  | succ n ih =>
    intro x k hk
    by_cases hf : ∃ i np, k = .fn i np
    · obtain ⟨i, np, rfl⟩ := hf
      obtain ⟨D, hD, rfl, rfl, hm, hmg⟩ := fnq x i np hk
      have hp := (ba (List.all_eq_true.mp t3 D hm)).1
      obtain ⟨p1, p2, p3, p4, p5⟩ := ba5 hp
      obtain ⟨p5, p6⟩ := ba p5
      obtain ⟨fd, F⟩ := def_at c hD hp
      refine ⟨⟨He.ga K D.d.name, fd, D.ps, hmg, F.kp, F.bindsN (hbd D hm), ?_⟩, by simpa using p6⟩
      exact fn_ok (L := ⟨P, w, mg, base, gamOf K defs cn⟩) F (scB_ok p3) (ckSs_ok (n := n) ih hxm D.fs D.df.body D.d.body (hbody D hm)) (by show (defs[i]?).map (·.df) = _; rw [hD]; rfl) (of_decide_eq_true p4) (of_decide_eq_true p5)
    · exact flat _ _ x k hk fun i np e => hf ⟨i, np, e⟩
/-- the law's own def: the cup is made in it -/
def spLaw (K : PySem.W.Frag) (F : Fn) (P : Par) (df : Df) : Sp := fun vs H Q _ => ∃ a ns, vs = [.ref a] ∧ SqL K H a (ns.map V.int) ∧ (∃ s', execs P F df.body (startS df.ns [.ro ns] none) = .rt (.val (.bl true)) s') ∧ ∀ H', Q (.bl true) H'
theorem law_ok (X : K.In h) (G : h.Ns mainGlobals mg) (c : He.SaysD fa (defs.map (·.d)) K) (ht : topB fa defs cn gl xs = true) (hbd : ∀ D ∈ defs, D.Bd) (hbody : ∀ D ∈ defs, D.bodyB gl = true) {i n : Nat} {D : DefI} {x : Str} (hD : defs[i]? = some D) (hps : D.ps = [x]) :
    ∃ fd, (∀ (s : Shared) (v : Value), BindsTo s fd ⟨[v], []⟩ [(x, v)]) ∧ ∀ base : Heap, L2.FnOk P w K mg base (L2.CX P w) (n + 1) (He.ga K D.d.name) fd [x] (spLaw K (callF (tbOf defs) (parOf wn xs) n) (parOf wn xs) D.df) := by
  obtain ⟨t1, t2, t3⟩ := ba3 ht
  have hm := List.mem_of_getElem? hD
  have hp := (ba (List.all_eq_true.mp t3 D hm)).1
  obtain ⟨p1, p2, p3, p4, p5⟩ := ba5 hp
  obtain ⟨fd, F⟩ := def_at c hD hp
  have S := scB_ok p3
  refine ⟨fd, fun s v => ?_, fun base => ?_⟩
  · have := F.bindsA (hbd D hm) s [v] (by rw [hps]; rfl)
    rw [hps] at this
    exact this
  have ih := top_ok (P := P) (w := w) (base := base) (wn := wn) X G c ht hbd hbody n
  have hb := ckSs_ok (n := n) ih (xm_ok (defs := defs) (wn := wn) c t2) D.fs D.df.body D.d.body (hbody D hm)
  rw [hps] at S
  refine F.ok S (fun vs H Q E h => ?_) fun cdv A outer s₀ H vs Q E hr h => ?_
  · obtain ⟨a, ns, rfl, _⟩ := h
    rfl
  refine ⟨spS (gamOf K defs cn) (fun cls d _ H' => E cls d H') (execs (parOf wn xs) (callF (tbOf defs) (parOf wn xs) n) D.df.body), hb _ _ ?_, ?_⟩
  · exact { prog := rfl, w := rfl, K := rfl, mg := rfl, base := rfl, N := rfl, nd := S.nd, sc := rfl, fn := rfl, calm := rfl, room := hr, tk := takes_of (X := cxOf (L2.CX P w) P w K mg base D.N D.d.qual D.d.scope (He.ga K D.d.name) cdv A outer s₀ H E) rfl rfl rfl rfl, po := passes_of (X := cxOf (L2.CX P w) P w K mg base D.N D.d.qual D.d.scope (He.ga K D.d.name) cdv A outer s₀ H E) (K := fun e s'' => L2.CX P w outer H s₀ E e s'') rfl, top := fun _ => ⟨rfl, rfl⟩ }
  · obtain ⟨a, ns, rfl, hS, ⟨s', hs⟩, hQ⟩ := h
    have hN : D.df.ns = D.N.length := of_decide_eq_true (ba p5).1
    have h1 : 1 ≤ D.N.length := by have := congrArg List.length S.pre; rw [List.length_take] at this; simp at this; omega
    refine ⟨none, H, H, none, startS D.df.ns [.ro ns] none, ⟨H, H, fun _ => []⟩, rfl, ?_, ⟨.rfl', fun a h => .inl h, Sub.refl _, fun a o h _ => h, fun a h => .inl h⟩, ?_⟩
    · refine ⟨?_, fun j t ht => ?_, fun _ _ => rfl, fun _ => .nil, fun _ _ _ h => (by cases h), fun _ _ h => (by cases h), Sub.refl _, trivial, fun _ _ h => (by cases h), fun _ h => h⟩
      · unfold startS L2.start
        simp only [List.length_append, List.length_map, List.length_replicate, List.length_cons, List.length_nil]
        omega
      · obtain ⟨d, hd, rfl⟩ := getS_start ht
        cases j with
        | succ j => simp at hd
        | zero =>
          simp at hd
          subst hd
          refine ⟨.ref a, by unfold L2.start; simp, ?_, rfl⟩
          unfold Rp
          exact ⟨a, rfl, hS⟩
    · rw [hs]
      intro κ σ s'' g v _ _ _ hv
      have hv : Rp (gamOf K defs cn) κ g.F v (.bl true) := hv
      unfold Rp at hv
      rw [hv]
      exact hQ _
end
end Ev

/-! one step at a time: rules for simp -/
namespace Ev
open PySem
variable {F : Fn} {P : Par} {s : St} {a b c : E} {es : List E} {i : Nat}
@[simp] theorem bind_ok {α β : Type} {x : α} {f : α → St → R β} : (R.ok x s).bind f = f x s := (rfl)
@[simp] theorem bind_exc {α β : Type} {k : Nat} {f : α → St → R β} : (R.exc k s : R α).bind f = .exc k s := (rfl)
@[simp] theorem lift_some {α : Type} {x : α} : lift (some x) s = .ok x s := (rfl)
@[simp] theorem out_ok {α : Type} {x : α} {f : α → St → Out} : (R.ok x s).out f = f x s := (rfl)
@[simp] theorem out_exc {α : Type} {k : Nat} {f : α → St → Out} : (R.exc k s : R α).out f = .xc k s := (rfl)
@[simp] theorem then_nx {f : St → Out} : (Out.nx s).then f = f s := (rfl)
@[simp] theorem then_rt {f : St → Out} {v : B} : (Out.rt v s).then f = .rt v s := (rfl)
@[simp] theorem then_xc {f : St → Out} {k : Nat} : (Out.xc k s).then f = .xc k s := (rfl)
@[simp] theorem evs_nil : evs F [] = [] := (rfl)
@[simp] theorem evs_cons : evs F (a :: es) = ev F a :: evs F es := (rfl)
@[simp] theorem execs_nil : execs P F [] s = .nx s := (rfl)
@[simp] theorem execs_cons {x : S} {xs : List S} : execs P F (x :: xs) s = (exec P F x s).then (execs P F xs) := (rfl)
@[simp] theorem getS_mk {l : List (Option T)} {k : Cup} : getS ⟨l, k⟩ i = (l[i]?).bind id := (rfl)
@[simp] theorem setS_mk {l : List (Option T)} {k : Cup} {t : T} : setS ⟨l, k⟩ i t = ⟨l.set i (some t), k⟩ := (rfl)
theorem var_b {d : D} (h : getS s i = some (.leaf d)) : (ev F (.var i)).b s = .ok (.val d) s := by show (match getS s i with | some (.leaf d) => R.ok (B.val d) s | some t => .ok (.val t.d) (setS s i (.leaf t.d)) | none => .bad) = _; rw [h]
theorem var_p {d : D} (h : getS s i = some (.leaf d)) : (ev F (.var i)).p s = .ok d s := by show (match getS s i with | some (.own2 xss) => R.ok (D.lst (xss.map .lst)) (setS s i (.own (xss.map .lst))) | some t => .ok t.d s | none => .bad) = _; rw [h]
def varB (t : Option T) (i : Nat) (s : St) : R B := match t with
  | some (.leaf d) => .ok (.val d) s
  | some t => .ok (.val t.d) (setS s i (.leaf t.d))
  | none => .bad
def varP (t : Option T) (i : Nat) (s : St) : R D := match t with
  | some (.own2 xss) => .ok (.lst (xss.map .lst)) (setS s i (.own (xss.map .lst)))
  | some t => .ok t.d s
  | none => .bad
@[simp] theorem ev_var_b {l : List (Option T)} {k : Cup} : (ev F (.var i)).b ⟨l, k⟩ = varB ((l[i]?).bind id) i ⟨l, k⟩ := (rfl)
@[simp] theorem ev_var_p {l : List (Option T)} {k : Cup} : (ev F (.var i)).p ⟨l, k⟩ = varP ((l[i]?).bind id) i ⟨l, k⟩ := (rfl)
@[simp] theorem varB_leaf {d : D} : varB (some (.leaf d)) i s = .ok (.val d) s := (rfl)
@[simp] theorem varB_own {ds : List D} : varB (some (.own ds)) i s = .ok (.val (.lst ds)) (setS s i (.leaf (.lst ds))) := (rfl)
@[simp] theorem varP_leaf {d : D} : varP (some (.leaf d)) i s = .ok d s := (rfl)
@[simp] theorem varP_own {ds : List D} : varP (some (.own ds)) i s = .ok (.lst ds) s := (rfl)
@[simp] theorem val_d {d : D} : (B.val d).d = d := (rfl)
@[simp] theorem new_d {d : List D} : (B.new d).d = .lst d := (rfl)
@[simp] theorem kept_same {k : Cup} {r : CR} : kept k k r = r := by unfold kept; rw [if_pos rfl]
@[simp] theorem con_b {d : D} : (ev F (.con d)).b s = .ok (.val d) s := (rfl)
@[simp] theorem con_p {d : D} : (ev F (.con d)).p s = .ok d s := (rfl)
def andD (f : St → R B) (x : D) (s : St) : R B := match x with
    | .bl true => f s
    | .bl false => .ok (.val (.bl false)) s
    | _ => .bad
@[simp] theorem andD_t {f : St → R B} : andD f (.bl true) s = f s := (rfl)
@[simp] theorem andD_f {f : St → R B} : andD f (.bl false) s = .ok (.val (.bl false)) s := (rfl)
@[simp] theorem and_b : (ev F (.and a b)).b s = ((ev F a).p s).bind (andD (ev F b).b) := (rfl)
@[simp] theorem and_t : (ev F (.and a b)).t s = ((ev F a).t s).bind fun k s => if k then (ev F b).t s else .ok false s := (rfl)
@[simp] theorem or_t : (ev F (.or a b)).t s = ((ev F a).t s).bind fun k s => if k then .ok true s else (ev F b).t s := (rfl)
@[simp] theorem cmp_b {o : Cp} : (ev F (.cmp o a b)).b s = ((ev F a).p s).bind fun x s => ((ev F b).p s).bind fun y s => (lift (cmpop o x y) s).bind fun k s => .ok (.val (.bl k)) s := (rfl)
@[simp] theorem chain_b {o q : Cp} : (ev F (.chain o q a b c)).b s = ((ev F a).p s).bind fun x s => ((ev F b).p s).bind fun y s => (lift (cmpop o x y) s).bind fun k s =>
  if k then ((ev F c).p s).bind fun z s => (lift (cmpop q y z) s).bind fun k s => .ok (.val (.bl k)) s else .ok (.val (.bl false)) s := (rfl)
def cres (s : St) (r : CR) : R B := match r with
  | .ok b c => .ok b { s with cup := c }
  | .exc k c => .exc k { s with cup := c }
  | .bad => .bad
@[simp] theorem cres_ok {v : B} {k : Cup} : cres s (.ok v k) = .ok v { s with cup := k } := (rfl)
@[simp] theorem cres_exc {v : Nat} {k : Cup} : cres s (.exc v k) = .exc v { s with cup := k } := (rfl)
@[simp] theorem call_b : (ev F (.call i es)).b s = (sArgs (evs F es) s).bind fun vs s => cres s (F i vs s.cup) := (rfl)
@[simp] theorem call_p : (ev F (.call i es)).p s = ((ev F (.call i es)).b s).bind fun v s => .ok v.d s := (rfl)
@[simp] theorem call_t : (ev F (.call i es)).t s = ((ev F (.call i es)).b s).bind fun v s => lift (truth v.d) s := (rfl)
@[simp] theorem sArgs_nil : sArgs [] s = .ok [] s := (rfl)
@[simp] theorem sArgs_cons {m : Sm} {ms : List Sm} : sArgs (m :: ms) s = (m.b s).bind fun v s => (sArgs ms s).bind fun vs s => .ok (v.d :: vs) s := (rfl)
@[simp] theorem sLook_nil : sLook [] s = .ok [] s := (rfl)
@[simp] theorem sLook_cons {m : Sm} {ms : List Sm} : sLook (m :: ms) s = (m.p s).bind fun v s => (sLook ms s).bind fun vs s => .ok (v :: vs) s := (rfl)
@[simp] theorem exec_ret {e : E} : exec P F (.ret e) s = (retB F e s).out fun b s => .rt b s := (rfl)
theorem retB_ne {e : E} (h : ∀ i, e ≠ .var i) : retB F e s = (ev F e).b s := by cases e <;> first | rfl | exact absurd rfl (h _)
def br {α : Type} (k : Bool) (x y : α) : α := match k with
    | true => x
    | false => y
@[simp] theorem br_t {α : Type} {x y : α} : br true x y = x := (rfl)
@[simp] theorem br_f {α : Type} {x y : α} : br false x y = y := (rfl)
@[simp] theorem exec_ifs {xs ys : List S} : exec P F (.ifs a xs ys) s = ((ev F a).t s).out fun k s => br k (execs P F xs s) (execs P F ys s) := (rfl)
def negD (x : D) (s : St) : R B := match x with
  | .int i => .ok (.val (.int (-i))) s
  | _ => .bad
@[simp] theorem negD_i {j : Int} : negD (.int j) s = .ok (.val (.int (-j))) s := (rfl)
@[simp] theorem neg_b : (ev F (.neg a)).b s = ((ev F a).p s).bind negD := (rfl)
@[simp] theorem neg_p : (ev F (.neg a)).p s = ((ev F (.neg a)).b s).bind fun v s => .ok v.d s := (rfl)
def notD (x : D) (s : St) : R B := match x with
  | .bl i => .ok (.val (.bl (!i))) s
  | _ => .bad
@[simp] theorem notD_b {j : Bool} : notD (.bl j) s = .ok (.val (.bl (!j))) s := (rfl)
@[simp] theorem not_b : (ev F (.not a)).b s = ((ev F a).p s).bind notD := (rfl)
@[simp] theorem bi_b {f : Bi} : (ev F (.bi f es)).b s = (sLook (evs F es) s).bind fun vs s => lift (biop f vs) s := (rfl)
@[simp] theorem bi_p {f : Bi} : (ev F (.bi f es)).p s = ((ev F (.bi f es)).b s).bind fun v s => .ok v.d s := (rfl)
@[simp] theorem bi_t {f : Bi} : (ev F (.bi f es)).t s = ((ev F (.bi f es)).b s).bind fun v s => lift (truth v.d) s := (rfl)
@[simp] theorem bin_b {o : Op} : (ev F (.bin o a b)).b s = ((ev F a).p s).bind fun x s => ((ev F b).p s).bind fun y s => lift (binop o x y) s := (rfl)
@[simp] theorem bin_p {o : Op} : (ev F (.bin o a b)).p s = ((ev F (.bin o a b)).b s).bind fun v s => .ok v.d s := (rfl)
@[simp] theorem isi_b {t : Ty} : (ev F (.isi t a)).b s = ((ev F a).p s).bind fun x s => (lift (isTy t x) s).bind fun k s => .ok (.val (.bl k)) s := (rfl)
@[simp] theorem isi_p {t : Ty} : (ev F (.isi t a)).p s = ((ev F (.isi t a)).b s).bind fun v s => .ok v.d s := (rfl)
@[simp] theorem cmp_p {o : Cp} : (ev F (.cmp o a b)).p s = ((ev F (.cmp o a b)).b s).bind fun v s => .ok v.d s := (rfl)
@[simp] theorem cmp_t {o : Cp} : (ev F (.cmp o a b)).t s = ((ev F (.cmp o a b)).b s).bind fun v s => lift (truth v.d) s := (rfl)
@[simp] theorem chain_p {o q : Cp} : (ev F (.chain o q a b c)).p s = ((ev F (.chain o q a b c)).b s).bind fun v s => .ok v.d s := (rfl)
@[simp] theorem comp_p {vs : List Nat} {g it : E} : (ev F (.comp vs g it a b)).p s = ((ev F (.comp vs g it a b)).b s).bind fun v s => .ok v.d s := (rfl)
@[simp] theorem var_g {l : List (Option T)} {k : Cup} {v : B} : (ev F (.var i)).g v ⟨l, k⟩ = if i < l.length then .ok () ⟨l.set i (some v.t), k⟩ else .bad := (rfl)
@[simp] theorem con_t {d : D} : (ev F (.con d)).t s = lift (truth d) s := (rfl)
@[simp] theorem tup_b : (ev F (.tup es)).b s = (sArgs (evs F es) s).bind fun vs s => .ok (.val (.tup vs)) s := (rfl)
@[simp] theorem lst_b : (ev F (.lst es)).b s = (sArgs (evs F es) s).bind fun vs s => .ok (.new vs) s := (rfl)
@[simp] theorem exec_raise {k : Nat} : exec P F (.raise k) s = .xc k s := (rfl)
@[simp] theorem exec_pass : exec P F .pass s = .nx s := (rfl)
@[simp] theorem exec_ex : exec P F (.ex a) s = ((ev F a).b s).out fun _ s => .nx s := (rfl)
@[simp] theorem exec_asg {g : E} : exec P F (.asg g a) s = ((ev F a).b s).out fun v s => ((ev F g).g v s).out fun _ s => .nx s := (rfl)
def forO (g : B → St → R Unit) (body : St → Out) (xs : List D) (o : Out) : Out := match o with
    | .nx s => forL g body xs s
    | .ct s => forL g body xs s
    | .bk s => .nx s
    | o => o
@[simp] theorem forO_nx {g : B → St → R Unit} {body : St → Out} {xs : List D} : forO g body xs (.nx s) = forL g body xs s := (rfl)
@[simp] theorem forO_ct {g : B → St → R Unit} {body : St → Out} {xs : List D} : forO g body xs (.ct s) = forL g body xs s := (rfl)
@[simp] theorem forO_bk {g : B → St → R Unit} {body : St → Out} {xs : List D} : forO g body xs (.bk s) = .nx s := (rfl)
@[simp] theorem forO_rt {g : B → St → R Unit} {body : St → Out} {xs : List D} {v : B} : forO g body xs (.rt v s) = .rt v s := (rfl)
@[simp] theorem forO_xc {g : B → St → R Unit} {body : St → Out} {xs : List D} {v : Nat} : forO g body xs (.xc v s) = .xc v s := (rfl)
@[simp] theorem forL_nil {g : B → St → R Unit} {body : St → Out} : forL g body [] s = .nx s := (rfl)
@[simp] theorem forL_cons {g : B → St → R Unit} {body : St → Out} {x : D} {xs : List D} : forL g body (x :: xs) s = (g (.val x) s).out fun _ s => forO g body xs (body s) := (rfl)
@[simp] theorem exec_for {g it : E} {xs : List S} : exec P F (.for_ g it xs) s = ((ev F it).i true s).out fun l s => forL (ev F g).g (execs P F xs) l s := (rfl)
@[simp] theorem not_t : (ev F (.not a)).t s = ((ev F a).t s).bind fun k s => .ok (!k) s := (rfl)
@[simp] theorem exec_par {is : List Nat} : exec P F (.par is es) s = (sNew (evs F es) s).out fun vs s => if no2 vs then (sPuts is vs s).out fun _ s => .nx s else .bad := (rfl)
def app2 (i : Nat) (t : Option T) (v : B) (s : St) : Out := match t with
  | some (.own xs) => if xs.length < big then .nx (setS s i (.own (xs ++ [v.d]))) else .bad
  | _ => .bad
def app1 (f : Sm) (i : Nat) (t : Option T) (s : St) : Out := match t with
    | some (.own _) => (f.b s).out fun v s => app2 i (getS s i) v s
    | _ => .bad
@[simp] theorem app2_own {xs : List D} {v : B} : app2 i (some (.own xs)) v s = if xs.length < big then .nx (setS s i (.own (xs ++ [v.d]))) else .bad := (rfl)
@[simp] theorem app1_own {xs : List D} {f : Sm} : app1 f i (some (.own xs)) s = (f.b s).out fun v s => app2 i (getS s i) v s := (rfl)
@[simp] theorem exec_append : exec P F (.append i a) s = app1 (ev F a) i (getS s i) s := (rfl)
@[simp] theorem sNew_nil : sNew [] s = .ok [] s := (rfl)
@[simp] theorem sNew_cons {m : Sm} {ms : List Sm} : sNew (m :: ms) s = (m.b s).bind fun v s => (sNew ms s).bind fun vs s => .ok (v :: vs) s := (rfl)
@[simp] theorem call_i {z : Bool} : (ev F (.call i es)).i z s = ((ev F (.call i es)).b s).bind fun v s => lift (items? v.d) s := (rfl)
@[simp] theorem ix_b : (ev F (.ix a b)).b s = ((ev F a).p s).bind fun x s => ((ev F b).p s).bind fun y s => (lift (ixop s.cup x y) s).bind fun d s => .ok (.val d) s := by
  cases a with
  | ix a j => cases a <;> rfl
  | _ => rfl
@[simp] theorem ix_p : (ev F (.ix a b)).p s = ((ev F (.ix a b)).b s).bind fun v s => .ok v.d s := by
  cases a with
  | ix a j => cases a <;> rfl
  | _ => rfl
def tupG (ms : List Sm) (o : Option (List D)) (s : St) : R Unit := match o with
    | some xs => if xs.length = ms.length then sGs ms xs s else .bad
    | none => .bad
@[simp] theorem tupG_some {ms : List Sm} {xs : List D} : tupG ms (some xs) s = if xs.length = ms.length then sGs ms xs s else .bad := (rfl)
@[simp] theorem tup_g {v : B} : (ev F (.tup es)).g v s = tupG (evs F es) (items? v.d) s := (rfl)
@[simp] theorem sGs_nil : sGs [] [] s = .ok () s := (rfl)
@[simp] theorem sGs_cons {m : Sm} {ms : List Sm} {d : D} {ds : List D} : sGs (m :: ms) (d :: ds) s = (m.g (.val d) s).bind fun _ s => sGs ms ds s := (rfl)
@[simp] theorem zip_i {z : Bool} : (ev F (.zip es)).i z s = (sArgsOr z (evs F es) s).bind fun vs s => (lift (allItems? vs) s).bind fun xss s => .ok (zipN xss) s := (rfl)
@[simp] theorem sArgsOr_f {ms : List Sm} : sArgsOr false ms s = sLook ms s := (rfl)
@[simp] theorem sArgsOr_t {ms : List Sm} : sArgsOr true ms s = sArgs ms s := (rfl)
@[simp] theorem truth_bl {k : Bool} : truth (.bl k) = some k := (rfl)
end Ev

/-! comprehensions, loops: one turn told, all told -/
namespace Ev
open PySem
/-- one turn of a comprehension -/
def turn1 (vs : List Nat) (g : B → St → R Unit) (c : St → R Bool) (e : St → R B) (x : D) (s : St) : R (Option B) :=
  (g (.val x) s).bind fun _ s => (c s).bind fun k s => match k with
    | true => (e s).bind fun v s => .ok (some v) { s with env := wipe s.env vs }
    | false => .ok none { s with env := wipe s.env vs }
theorem turns_cons {vs : List Nat} {g : B → St → R Unit} {c : St → R Bool} {e : St → R B} {x : D} {xs : List D} {acc : List B} {s : St} :
    turns vs g c e (x :: xs) acc s = (turn1 vs g c e x s).bind fun o s => turns vs g c e xs (acc ++ o.toList) s := by
  unfold turn1
  simp only [turns]
  cases g (.val x) s with
  | ok _ s1 =>
    simp only [bind_ok]
    cases c s1 with
    | ok k s2 =>
      simp only [bind_ok]
      cases k with
      | true =>
        dsimp only
        cases e s2 with
        | ok v s3 => simp only [bind_ok]; rfl
        | exc _ _ => rfl
        | bad => rfl
      | false => simp [Option.toList]
    | exc _ _ => rfl
    | bad => rfl
  | exc _ _ => rfl
  | bad => rfl
/-- nothing but the items changes -/
theorem turns_pure {vs : List Nat} {g : B → St → R Unit} {c : St → R Bool} {e : St → R B} {s : St} (o : D → Option B) : ∀ {xs : List D} {acc : List B}, (∀ x ∈ xs, turn1 vs g c e x s = .ok (o x) s) → turns vs g c e xs acc s = .ok (acc ++ xs.filterMap o) s
  | [], acc, _ => by simp [turns]
  | x :: xs, acc, h => by
    rw [turns_cons, h x List.mem_cons_self, bind_ok, turns_pure o fun y hy => h y (List.mem_cons_of_mem _ hy)]
    cases q : o x with
    | none => simp [List.filterMap_cons, q, Option.toList]
    | some v => simp [List.filterMap_cons, q, Option.toList]
/-- a fold over what goes along -/
def foldO {α : Type} (st : α → D → Option B × α) : List D → α → List B × α
  | [], a => ([], a)
  | x :: xs, a => ((st a x).1.toList ++ (foldO st xs (st a x).2).1, (foldO st xs (st a x).2).2)
theorem turns_fold {α : Type} {vs : List Nat} {g : B → St → R Unit} {c : St → R Bool} {e : St → R B} {s : α → St} (st : α → D → Option B × α) (I : α → Prop) :
    ∀ {xs : List D} {acc : List B} {a : α}, I a → (∀ a, I a → ∀ x ∈ xs, turn1 vs g c e x (s a) = .ok (st a x).1 (s (st a x).2) ∧ I (st a x).2) → turns vs g c e xs acc (s a) = .ok (acc ++ (foldO st xs a).1) (s (foldO st xs a).2)
  | [], acc, a, _, _ => by simp [turns, foldO]
  | x :: xs, acc, a, ha, h => by
    obtain ⟨h1, h2⟩ := h a ha x List.mem_cons_self
    rw [turns_cons, h1, bind_ok, turns_fold st I h2 fun a ha y hy => h a ha y (List.mem_cons_of_mem _ hy)]
    simp [foldO]
theorem vals_map : ∀ ds : List D, vals? (ds.map .val) = some ds
  | [] => rfl
  | d :: ds => by simp [vals?, vals_map ds]
theorem gather_vals (ds : List D) : gather (ds.map .val) = some (.new ds) := by unfold gather; rw [vals_map]
/-- a loop -/
theorem forL_inv {α : Type} {g : B → St → R Unit} {body : St → Out} {s : α → St} (st : α → D → α) : ∀ {xs : List D} {a : α}, (∀ a x, x ∈ xs → ∃ s1, g (.val x) (s a) = .ok () s1 ∧ body s1 = .nx (s (st a x))) → forL g body xs (s a) = .nx (s (xs.foldl st a))
  | [], a, _ => rfl
  | x :: xs, a, h => by
    obtain ⟨s1, e1, e2⟩ := h a x List.mem_cons_self
    simp only [forL, e1, out_ok, e2, List.foldl_cons]
    exact forL_inv st fun a y hy => h a y (List.mem_cons_of_mem _ hy)
end Ev

namespace Ev
open PySem
variable {F : Fn} {P : Par} {s : St} {g it c e : E} {vs : List Nat}
theorem comp_fold {α : Type} {s : St} {xs : List D} {s1 : α → St} {s2 : St} {a : α} (st : α → D → Option D × α) (I : α → Prop) (hi : (ev F it).i false s = .ok xs s2) (hl : leafs s2 vs = true) (hb : xs.length ≤ big) (h0 : { s2 with env := wipe s2.env vs } = s1 a) (ha : I a)
    (h : ∀ a, I a → ∀ x ∈ xs, turn1 vs (ev F g).g (ev F c).t (ev F e).b x (s1 a) = .ok ((st a x).1.map .val) (s1 (st a x).2) ∧ I (st a x).2) :
    ∃ (ds : List D) (a' : α), (foldO (fun a x => ((st a x).1.map B.val, (st a x).2)) xs a) = (ds.map .val, a') ∧
      (ev F (.comp vs g it c e)).b s = .ok (.new ds) { s1 a' with env := back s2.env (s1 a').env vs } := by
  have hv : ∀ (l : List D) (b : α), ∃ (ds : List D) (a' : α), foldO (fun a x => ((st a x).1.map B.val, (st a x).2)) l b = (ds.map .val, a') := by
    intro l
    induction l with
    | nil => exact fun b => ⟨[], b, rfl⟩
    | cons x l ih =>
      intro b
      obtain ⟨ds, a', q⟩ := ih (st b x).2
      cases o : (st b x).1 with
      | none => exact ⟨ds, a', by simp [foldO, o, q, Option.toList]⟩
      | some d => exact ⟨d :: ds, a', by simp [foldO, o, q, Option.toList]⟩
  obtain ⟨ds, a', q⟩ := hv xs a
  refine ⟨ds, a', q, ?_⟩
  show ((ev F it).i false s).bind _ = _
  rw [hi, bind_ok, if_pos (by rw [hl, decide_eq_true hb]; rfl), h0, turns_fold (fun a x => ((st a x).1.map B.val, (st a x).2)) I ha h, q]
  show (lift (gather ([] ++ ds.map .val)) _ : R B) = _
  rw [List.nil_append, gather_vals]
  rfl
theorem comp_pure {s s2 : St} {xs : List D} (o : D → Option D) (hi : (ev F it).i false s = .ok xs s2) (hl : leafs s2 vs = true) (hb : xs.length ≤ big)
    (h : ∀ x ∈ xs, turn1 vs (ev F g).g (ev F c).t (ev F e).b x { s2 with env := wipe s2.env vs } = .ok ((o x).map .val) { s2 with env := wipe s2.env vs }) :
    (ev F (.comp vs g it c e)).b s = .ok (.new (xs.filterMap o)) { s2 with env := back s2.env (wipe s2.env vs) vs } := by
  have e2 : ∀ l : List D, l.filterMap (fun x => (o x).map B.val) = (l.filterMap o).map .val := by
    intro l
    induction l with
    | nil => rfl
    | cons x l ih => cases q : o x <;> simp [List.filterMap_cons, q, ih]
  show ((ev F it).i false s).bind _ = _
  rw [hi, bind_ok, if_pos (by rw [hl, decide_eq_true hb]; rfl), turns_pure (fun x => (o x).map B.val) h]
  show (lift (gather ([] ++ xs.filterMap _)) _ : R B) = _
  rw [List.nil_append, e2, gather_vals]
  rfl
theorem turns_map {α : Type} (emb f : α → D) {g : B → St → R Unit} {c : St → R Bool} {e : St → R B} {s : St} : ∀ {l : List α} {acc : List B}, (∀ x ∈ l, turn1 vs g c e (emb x) s = .ok (some (.val (f x))) s) → turns vs g c e (l.map emb) acc s = .ok (acc ++ (l.map f).map .val) s
  | [], acc, _ => by simp [turns]
  | x :: l, acc, h => by
    rw [List.map_cons, turns_cons, h x List.mem_cons_self, bind_ok, turns_map emb f fun y hy => h y (List.mem_cons_of_mem _ hy)]
    simp [Option.toList]
/-- a comprehension without a test -/
theorem comp_map {α : Type} (emb f : α → D) {l : List α} {s s2 : St} (hi : (ev F it).i false s = .ok (l.map emb) s2) (hl : leafs s2 vs = true) (hb : l.length ≤ big)
    (h : ∀ x ∈ l, turn1 vs (ev F g).g (ev F c).t (ev F e).b (emb x) { s2 with env := wipe s2.env vs } = .ok (some (.val (f x))) { s2 with env := wipe s2.env vs }) :
    (ev F (.comp vs g it c e)).b s = .ok (.new (l.map f)) { s2 with env := back s2.env (wipe s2.env vs) vs } := by
  show ((ev F it).i false s).bind _ = _
  rw [hi, bind_ok, if_pos (by rw [hl, List.length_map, decide_eq_true hb]; rfl), turns_map emb f h]
  show (lift (gather ([] ++ (l.map f).map .val)) _ : R B) = _
  rw [List.nil_append, gather_vals]
  rfl
theorem bools_map : ∀ bs : List Bool, bools? (bs.map .bl) = some bs
  | [] => rfl
  | b :: bs => by simp [bools?, bools_map bs]
theorem ints_map : ∀ xs : List Int, ints? (xs.map .int) = some xs
  | [] => rfl
  | x :: xs => by simp [ints?, ints_map xs]
theorem all_map (bs : List Bool) : biop .all [.lst (bs.map .bl)] = some (.val (.bl (bs.all id))) := by
  show (bools? _).map _ = _
  rw [bools_map]; rfl
end Ev

/-! typed data; operators on them; loops and comprehensions by relations -/
namespace Ev
open PySem
theorem okD_tup (n : Nat) (xs : List D) : okD (n + 1) (.tup xs) = okDs n xs := by cases xs <;> simp [okD]
theorem okD_lst (n : Nat) (xs : List D) : okD (n + 1) (.lst xs) = okDs n xs := by cases xs <;> simp [okD]
theorem okDs_nil (n : Nat) : okDs n [] = true := by simp [okDs]
theorem okDs_cons (n : Nat) (x : D) (xs : List D) : okDs n (x :: xs) = (okD n x && okDs n xs) := by simp [okDs]
/-- a kind of data -/
class Em (α : Type) where
  e : α → D
  dep : Nat
  ok : ∀ a n, dep ≤ n → okD n (e a) = true
  eq : ∀ a b, eqD (e a) (e b) = true ↔ a = b
abbrev em {α : Type} [Em α] (a : α) : D := Em.e a
instance : Em Int := ⟨.int, 0, fun a n _ => by simp [okD], fun a b => by simp [eqD]⟩
instance : Em Bool := ⟨.bl, 0, fun a n _ => by simp [okD], fun a b => by simp [eqD]⟩
theorem okDs_map {α : Type} [Em α] {n : Nat} (h : Em.dep α ≤ n) : ∀ xs : List α, okDs n (xs.map em) = true
  | [] => okDs_nil n
  | x :: xs => by rw [List.map_cons, okDs_cons, Em.ok x n h, okDs_map h xs]; rfl
theorem eqDs_nil : eqDs [] [] = true := by simp [eqDs]
theorem eqDs_cons (x y : D) (xs ys : List D) : eqDs (x :: xs) (y :: ys) = (eqD x y && eqDs xs ys) := by simp [eqDs]
theorem eqDs_nc (y : D) (ys : List D) : eqDs [] (y :: ys) = false := by simp [eqDs]
theorem eqDs_cn (y : D) (ys : List D) : eqDs (y :: ys) [] = false := by simp [eqDs]
theorem eqD_tup (xs ys : List D) : eqD (.tup xs) (.tup ys) = eqDs xs ys := by simp [eqD]
theorem eqD_lst (xs ys : List D) : eqD (.lst xs) (.lst ys) = eqDs xs ys := by simp [eqD]
theorem eqDs_map {α : Type} [Em α] : ∀ xs ys : List α, eqDs (xs.map em) (ys.map em) = true ↔ xs = ys
  | [], [] => by simp [eqDs_nil]
  | [], y :: ys => by simp [eqDs_nc]
  | x :: xs, [] => by simp [eqDs_cn]
  | x :: xs, y :: ys => by
    rw [List.map_cons, List.map_cons, eqDs_cons, Bool.and_eq_true, Em.eq, eqDs_map xs ys, List.cons.injEq]
/-- the items of a row of such data -/
def JL {α : Type} [Em α] (xs : List α) : List D := xs.map em
instance {α : Type} [Em α] : Em (List α) := ⟨fun xs => .tup (JL xs), Em.dep α + 1, fun a n h => by
  cases n with
  | zero => omega
  | succ n => rw [okD_tup]; exact okDs_map (by omega) a, fun a b => by rw [eqD_tup]; exact eqDs_map a b⟩
instance {α β : Type} [Em α] [Em β] : Em (α × β) := ⟨fun p => .tup [em p.1, em p.2], max (Em.dep α) (Em.dep β) + 1, fun a n h => by
  cases n with
  | zero => omega
  | succ n => rw [okD_tup, okDs_cons, okDs_cons, Em.ok a.1 n (by omega), Em.ok a.2 n (by omega), okDs_nil]; rfl, fun a b => by
    rw [eqD_tup, eqDs_cons, eqDs_cons, eqDs_nil, Bool.and_eq_true, Bool.and_eq_true, Em.eq, Em.eq]
    cases a; cases b; simp⟩
section
variable {α β : Type} [Em α] [Em β]
@[simp] theorem em_int (i : Int) : em i = D.int i := rfl
@[simp] theorem em_bl (i : Bool) : em i = D.bl i := rfl
@[simp] theorem em_list (xs : List α) : em xs = D.tup (JL xs) := rfl
@[simp] theorem em_pair (a : α) (b : β) : em (a, b) = D.tup [em a, em b] := rfl
@[simp] theorem JL_nil : JL ([] : List α) = [] := (rfl)
theorem JL_cons (x : α) (xs : List α) : JL (x :: xs) = em x :: JL xs := rfl
@[simp] theorem JL_len (xs : List α) : (JL xs).length = xs.length := List.length_map _
theorem JL_app (xs ys : List α) : JL xs ++ JL ys = JL (xs ++ ys) := List.map_append.symm
theorem JL_snoc (xs : List α) (y : α) : JL xs ++ [em y] = JL (xs ++ [y]) := JL_app xs [y]
theorem JL_get (xs : List α) (i : Nat) : (JL xs)[i]? = (xs[i]?).map em := List.getElem?_map
theorem JL_rev (xs : List α) : (JL xs).reverse = JL xs.reverse := by unfold JL; rw [List.map_reverse]
theorem JL_set (xs : List α) (i : Nat) (y : α) : (JL xs).set i (em y) = JL (xs.set i y) := by unfold JL; rw [List.map_set]
theorem JL_take (xs : List α) (i : Nat) : (JL xs).take i = JL (xs.take i) := by unfold JL; rw [List.map_take]
theorem JL_drop (xs : List α) (i : Nat) : (JL xs).drop i = JL (xs.drop i) := by unfold JL; rw [List.map_drop]
theorem JL_ints (xs : List Int) : ints? (JL xs) = some xs := ints_map xs
theorem JL_bools (xs : List Bool) : bools? (JL xs) = some xs := bools_map xs
theorem at_JL (xs : List α) {i : Nat} (x : α) (h : xs[i]? = some x) : at? (JL xs) (i : Int) = some (em x) := by
  have hl : i < xs.length := by
    rcases Nat.lt_or_ge i xs.length with h1 | h1
    · exact h1
    · rw [List.getElem?_eq_none h1] at h; cases h
  unfold at? place
  rw [if_pos (by omega), JL_len, if_pos (by omega)]
  show (JL xs)[((i : Int)).toNat]? = _
  rw [Int.toNat_natCast, JL_get, h]; rfl
theorem at_JL0 (x : α) (xs : List α) : at? (JL (x :: xs)) 0 = some (em x) := at_JL (x :: xs) (i := 0) x rfl
theorem at_JLi (xs : List α) {i : Int} (h0 : 0 ≤ i) (x : α) (h : xs[i.toNat]? = some x) : at? (JL xs) i = some (em x) := by
  have := at_JL xs x h
  rwa [Int.toNat_of_nonneg h0] at this
theorem at_JLlast (xs : List α) (x : α) (h : xs.getLast? = some x) : at? (JL xs) (-1) = some (em x) := by
  have hl : xs ≠ [] := by intro e; rw [e] at h; cases h
  have hl1 : 1 ≤ xs.length := by cases xs with | nil => exact absurd rfl hl | cons _ _ => simp
  unfold at? place
  rw [if_neg (by omega), JL_len, if_pos (by omega)]
  have : ((-1 : Int) + (xs.length : Int)).toNat = xs.length - 1 := by omega
  show (JL xs)[((-1 : Int) + (xs.length : Int)).toNat]? = _
  rw [this, JL_get, ← List.getLast?_eq_getElem?, h]; rfl
/-! equality -/
theorem okI (i : Int) (n : Nat) : okD n (.int i) = true := by simp [okD]
theorem okB (i : Bool) (n : Nat) : okD n (.bl i) = true := by simp [okD]
theorem okN (n : Nat) : okD n .non = true := by simp [okD]
theorem eqII (i j : Int) : eqD (.int i) (.int j) = (i == j) := by simp [eqD]
theorem eqBB (i j : Bool) : eqD (.bl i) (.bl j) = (i == j) := by simp [eqD]
theorem cmp_eqd (x y : D) : cmpop .eq x y = if (okD 64 x && okD 64 y) = true then some (eqD x y) else none := by cases x <;> rfl
theorem cmp_ned (x y : D) : cmpop .ne x y = if (okD 64 x && okD 64 y) = true then some (!eqD x y) else none := by cases x <;> rfl
@[simp] theorem cmp_eqI (i j : Int) : cmpop .eq (.int i) (.int j) = some (decide (i = j)) := by
  rw [cmp_eqd]; rw [okI, okI, eqII]; rfl
@[simp] theorem cmp_neI (i j : Int) : cmpop .ne (.int i) (.int j) = some (!decide (i = j)) := by
  rw [cmp_ned]; rw [okI, okI, eqII]; rfl
@[simp] theorem cmp_lt (i j : Int) : cmpop .lt (.int i) (.int j) = some (decide (i < j)) := rfl
@[simp] theorem cmp_le (i j : Int) : cmpop .le (.int i) (.int j) = some (decide (i ≤ j)) := rfl
@[simp] theorem cmp_gt (i j : Int) : cmpop .gt (.int i) (.int j) = some (decide (j < i)) := rfl
@[simp] theorem cmp_ge (i j : Int) : cmpop .ge (.int i) (.int j) = some (decide (j ≤ i)) := rfl
@[simp] theorem cmp_eqB (i j : Bool) : cmpop .eq (.bl i) (.bl j) = some (i == j) := by
  rw [cmp_eqd]; rw [okB, okB, eqBB]; rfl
@[simp] theorem cmp_neB (i j : Bool) : cmpop .ne (.bl i) (.bl j) = some (!(i == j)) := by
  rw [cmp_ned]; rw [okB, okB, eqBB]; rfl
theorem cmp_eqE [DecidableEq α] (h : Em.dep α ≤ 64) (a b : α) : cmpop .eq (em a) (em b) = some (decide (a = b)) := by
  rw [cmp_eqd, Em.ok a 64 h, Em.ok b 64 h]
  have := Em.eq a b
  cases e : eqD (em a) (em b) <;> rw [e] at this <;> simp at this <;> simp [this, e]
theorem cmp_neE [DecidableEq α] (h : Em.dep α ≤ 64) (a b : α) : cmpop .ne (em a) (em b) = some (!decide (a = b)) := by
  rw [cmp_ned, Em.ok a 64 h, Em.ok b 64 h]
  have := Em.eq a b
  cases e : eqD (em a) (em b) <;> rw [e] at this <;> simp at this <;> simp [this, e]
@[simp] theorem cmp_isB (a b : Bool) : cmpop .is (.bl a) (.bl b) = some (a == b) := rfl
/-! built-ins -/
@[simp] theorem bi_lenT (xs : List D) : biop .len [.tup xs] = some (.val (.int xs.length)) := rfl
@[simp] theorem bi_lenL (xs : List D) : biop .len [.lst xs] = some (.val (.int xs.length)) := rfl
@[simp] theorem bi_tupT (xs : List D) : biop .tuple [.tup xs] = some (.val (.tup xs)) := rfl
@[simp] theorem bi_tupL (xs : List D) : biop .tuple [.lst xs] = some (.val (.tup xs)) := rfl
@[simp] theorem bi_lstT (xs : List D) : biop .list [.tup xs] = some (.new xs) := rfl
@[simp] theorem bi_lstL (xs : List D) : biop .list [.lst xs] = some (.new xs) := rfl
@[simp] theorem bi_allJ (xs : List Bool) : biop .all [.lst (JL xs)] = some (.val (.bl (xs.all id))) := all_map xs
@[simp] theorem bi_sumT (xs : List Int) : biop .sum [.tup (JL xs)] = some (.val (.int xs.sum)) := by
  show ((some (JL xs)).bind ints?).map _ = _
  show (ints? (JL xs)).map _ = _
  rw [JL_ints]; rfl
@[simp] theorem bi_sumL (xs : List Int) : biop .sum [.lst (JL xs)] = some (.val (.int xs.sum)) := bi_sumT xs
@[simp] theorem bi_sortRT (xs : List Int) : biop .sortedR [.tup (JL xs)] = some (.new (JL (sortI xs).reverse)) := by
  show (ints? (JL xs)).map _ = _
  rw [JL_ints]; rfl
@[simp] theorem bi_sortRL (xs : List Int) : biop .sortedR [.lst (JL xs)] = some (.new (JL (sortI xs).reverse)) := bi_sortRT xs
@[simp] theorem bi_int (i : Int) : biop .int [.int i] = some (.val (.int i)) := rfl
theorem bi_abs (i : Int) : biop .abs [.int i] = some (.val (.int (if i < 0 then -i else i))) := rfl
@[simp] theorem ix_T (c : Cup) (xs : List D) (i : Int) : ixop c (.tup xs) (.int i) = at? xs i := rfl
@[simp] theorem ix_L (c : Cup) (xs : List D) (i : Int) : ixop c (.lst xs) (.int i) = at? xs i := rfl
@[simp] theorem op_add (i j : Int) : binop .add (.int i) (.int j) = some (.val (.int (i + j))) := rfl
@[simp] theorem op_sub (i j : Int) : binop .sub (.int i) (.int j) = some (.val (.int (i - j))) := rfl
@[simp] theorem truthI (i : Int) : truth (.int i) = some (i != 0) := rfl
@[simp] theorem isTyI (t : Ty) (i : Int) : isTy t (.int i) = some (decide (t = .int)) := by cases t <;> rfl
@[simp] theorem isTyT (t : Ty) (i : List D) : isTy t (.tup i) = some (decide (t = .tuple)) := by cases t <;> rfl
@[simp] theorem isTyL (t : Ty) (i : List D) : isTy t (.lst i) = some (decide (t = .list)) := by cases t <;> rfl
@[simp] theorem isTyB (t : Ty) (i : Bool) : isTy t (.bl i) = some (decide (t = .bool) || decide (t = .int)) := by cases t <;> rfl
@[simp] theorem isTyN (t : Ty) : isTy t .non = some false := by cases t <;> rfl
@[simp] theorem isTyS (t : Ty) (s : Str) : isTy t (.str s) = some (decide (t = .str)) := by cases t <;> rfl
@[simp] theorem items_T (xs : List D) : items? (.tup xs) = some xs := rfl
@[simp] theorem items_L (xs : List D) : items? (.lst xs) = some xs := rfl
end
/-- plain data, no deeper than k, of no great length -/
inductive PlD : Nat → D → Prop where
  | non (k : Nat) : PlD k .non
  | bl (k : Nat) (b : Bool) : PlD k (.bl b)
  | int (k : Nat) (i : Int) : PlD k (.int i)
  | str (k : Nat) (s : Str) : PyData.strOk s = true → PlD k (.str s)
  | tup (k : Nat) (xs : List D) : xs.length ≤ big → (∀ x ∈ xs, PlD k x) → PlD (k + 1) (.tup xs)
  | lst (k : Nat) (xs : List D) : xs.length ≤ big → (∀ x ∈ xs, PlD k x) → PlD (k + 1) (.lst xs)
theorem okDs_of {n : Nat} : ∀ {xs : List D}, (∀ x ∈ xs, okD n x = true) → okDs n xs = true
  | [], _ => okDs_nil n
  | x :: xs, h => by rw [okDs_cons, h x List.mem_cons_self, okDs_of fun y hy => h y (List.mem_cons_of_mem _ hy)]; rfl
theorem PlD.ok {k : Nat} {d : D} (h : PlD k d) : ∀ n, k ≤ n → okD n d = true := by
  induction h with
  | non => intro n _; simp [okD]
  | bl => intro n _; simp [okD]
  | int => intro n _; simp [okD]
  | str _ _ h => intro n _; simp [okD, h]
  | tup k xs _ _ ih => intro n hn; cases n with
    | zero => omega
    | succ n => rw [okD_tup]; exact okDs_of fun x hx => ih x hx n (by omega)
  | lst k xs _ _ ih => intro n hn; cases n with
    | zero => omega
    | succ n => rw [okD_lst]; exact okDs_of fun x hx => ih x hx n (by omega)
theorem PlD.mono {k : Nat} {d : D} (h : PlD k d) : ∀ n, k ≤ n → PlD n d := by
  induction h with
  | non => intro n _; exact .non n
  | bl => intro n _; exact .bl n _
  | int => intro n _; exact .int n _
  | str _ _ h => intro n _; exact .str n _ h
  | tup k xs h1 _ ih => intro n hn; cases n with
    | zero => omega
    | succ n => exact .tup n xs h1 fun x hx => ih x hx n (by omega)
  | lst k xs h1 _ ih => intro n hn; cases n with
    | zero => omega
    | succ n => exact .lst n xs h1 fun x hx => ih x hx n (by omega)
theorem PlD.row {α : Type} [Em α] {k : Nat} {xs : List α} (hb : xs.length ≤ big) (h : ∀ x ∈ xs, PlD k (em x)) : PlD (k + 1) (em xs) := by
  refine .tup k _ (by rw [JL_len]; exact hb) fun d hd => ?_
  obtain ⟨x, hx, rfl⟩ := List.mem_map.1 hd
  exact h x hx
theorem PlD.ints {xs : List Int} (k : Nat) (hb : xs.length ≤ big) : PlD (k + 1) (em xs) := .row hb fun x _ => .int k x
theorem PlD.nil (k : Nat) : ∀ x ∈ ([] : List D), PlD k x := fun x hx => nomatch hx
theorem PlD.cons {k : Nat} {d : D} {ds : List D} (h : PlD k d) (hs : ∀ x ∈ ds, PlD k x) : ∀ x ∈ d :: ds, PlD k x := fun x hx => by
  rcases List.mem_cons.1 hx with rfl | hx
  · exact h
  · exact hs x hx
/-! more rules of one step -/
variable {F : Fn} {P : Par} {s : St} {a b c e : E} {es : List E} {i : Nat}
@[simp] theorem ife_b : (ev F (.ife c a b)).b s = ((ev F c).t s).bind fun k s => if k then (ev F a).b s else (ev F b).b s := (rfl)
@[simp] theorem ife_t : (ev F (.ife c a b)).t s = ((ev F c).t s).bind fun k s => if k then (ev F a).t s else (ev F b).t s := (rfl)
@[simp] theorem ife_p : (ev F (.ife c a b)).p s = ((ev F (.ife c a b)).b s).bind fun v s => .ok v.d s := (rfl)
def orD (f : St → R B) (x : D) (s : St) : R B := match x with
    | .bl false => f s
    | .bl true => .ok (.val (.bl true)) s
    | _ => .bad
@[simp] theorem orD_f {f : St → R B} : orD f (.bl false) s = f s := (rfl)
@[simp] theorem orD_t {f : St → R B} : orD f (.bl true) s = .ok (.val (.bl true)) s := (rfl)
@[simp] theorem or_b : (ev F (.or a b)).b s = ((ev F a).p s).bind (orD (ev F b).b) := (rfl)
@[simp] theorem or_p : (ev F (.or a b)).p s = ((ev F (.or a b)).b s).bind fun v s => .ok v.d s := (rfl)
@[simp] theorem and_p : (ev F (.and a b)).p s = ((ev F (.and a b)).b s).bind fun v s => .ok v.d s := (rfl)
@[simp] theorem not_p : (ev F (.not a)).p s = ((ev F (.not a)).b s).bind fun v s => .ok v.d s := (rfl)
@[simp] theorem tup_p : (ev F (.tup es)).p s = ((ev F (.tup es)).b s).bind fun v s => .ok v.d s := (rfl)
@[simp] theorem lst_p : (ev F (.lst es)).p s = ((ev F (.lst es)).b s).bind fun v s => .ok v.d s := (rfl)
@[simp] theorem isi_t {t : Ty} : (ev F (.isi t a)).t s = ((ev F (.isi t a)).b s).bind fun v s => lift (truth v.d) s := (rfl)
@[simp] theorem chain_t {o q : Cp} : (ev F (.chain o q a b c)).t s = ((ev F (.chain o q a b c)).b s).bind fun v s => lift (truth v.d) s := (rfl)
@[simp] theorem bin_t {o : Op} : (ev F (.bin o a b)).t s = ((ev F (.bin o a b)).b s).bind fun v s => lift (truth v.d) s := (rfl)
def isNone : D → Bool
  | .non => true
  | _ => false
@[simp] theorem isNone_n : isNone .non = true := (rfl)
@[simp] theorem isNone_i {j : Int} : isNone (.int j) = false := (rfl)
@[simp] theorem isNone_b {j : Bool} : isNone (.bl j) = false := (rfl)
@[simp] theorem isNone_s {j : Str} : isNone (.str j) = false := (rfl)
@[simp] theorem isNone_t {j : List D} : isNone (.tup j) = false := (rfl)
@[simp] theorem isNone_l {j : List D} : isNone (.lst j) = false := (rfl)
@[simp] theorem cmp_isN (x : D) : cmpop .is x .non = some (isNone x) := by cases x <;> rfl
@[simp] theorem cmp_isnN (x : D) : cmpop .isn x .non = some (!isNone x) := by cases x <;> rfl
def varT (t : Option T) (s : St) : R Bool := match t with
  | some t => lift (truth t.d) s
  | none => .bad
@[simp] theorem ev_var_t {l : List (Option T)} {k : Cup} : (ev F (.var i)).t ⟨l, k⟩ = varT ((l[i]?).bind id) ⟨l, k⟩ := (rfl)
@[simp] theorem varT_some {t : T} : varT (some t) s = lift (truth t.d) s := (rfl)
def varI (z : Bool) (t : Option T) (i : Nat) (s : St) : R (List D) := match t with
    | some (.leaf d) => lift (items? d) s
    | some (.own xs) => .ok xs (if z then setS s i (.leaf (.lst xs)) else s)
    | some (.own2 xss) => .ok (xss.map .lst) (setS s i (if z then .leaf (.lst (xss.map .lst)) else .own (xss.map .lst)))
    | some (.dct _ _) => .bad
    | none => .bad
@[simp] theorem ev_var_i {z : Bool} {l : List (Option T)} {k : Cup} : (ev F (.var i)).i z ⟨l, k⟩ = varI z ((l[i]?).bind id) i ⟨l, k⟩ := (rfl)
@[simp] theorem varI_leaf {z : Bool} {d : D} : varI z (some (.leaf d)) i s = lift (items? d) s := (rfl)
@[simp] theorem varI_own {z : Bool} {xs : List D} : varI z (some (.own xs)) i s = .ok xs (if z then setS s i (.leaf (.lst xs)) else s) := (rfl)
@[simp] theorem comp_i {vs : List Nat} {g it : E} {z : Bool} : (ev F (.comp vs g it a b)).i z s = ((ev F (.comp vs g it a b)).b s).bind fun v s => lift (items? v.d) s := (rfl)
@[simp] theorem tup_i {z : Bool} : (ev F (.tup es)).i z s = ((ev F (.tup es)).b s).bind fun v s => lift (items? v.d) s := (rfl)
@[simp] theorem lst_i {z : Bool} : (ev F (.lst es)).i z s = ((ev F (.lst es)).b s).bind fun v s => lift (items? v.d) s := (rfl)
@[simp] theorem ix_i {z : Bool} : (ev F (.ix a b)).i z s = ((ev F (.ix a b)).b s).bind fun v s => lift (items? v.d) s := by
  cases a with
  | ix a j => cases a <;> rfl
  | _ => rfl
@[simp] theorem bi_i {f : Bi} {z : Bool} : (ev F (.bi f es)).i z s = ((ev F (.bi f es)).b s).bind fun v s => lift (items? v.d) s := (rfl)
@[simp] theorem bin_i {o : Op} {z : Bool} : (ev F (.bin o a b)).i z s = ((ev F (.bin o a b)).b s).bind fun v s => lift (items? v.d) s := (rfl)
@[simp] theorem sl_i {z : Bool} : (ev F (.sl a b c)).i z s = ((ev F (.sl a b c)).b s).bind fun v s => lift (items? v.d) s := (rfl)
@[simp] theorem sl_p : (ev F (.sl a b c)).p s = ((ev F (.sl a b c)).b s).bind fun v s => .ok v.d s := (rfl)
@[simp] theorem rev_b : (ev F (.rev a)).b s = ((ev F a).p s).bind fun x s => lift (revop x) s := (rfl)
@[simp] theorem rev_p : (ev F (.rev a)).p s = ((ev F (.rev a)).b s).bind fun v s => .ok v.d s := (rfl)
@[simp] theorem rev_i {z : Bool} : (ev F (.rev a)).i z s = ((ev F (.rev a)).b s).bind fun v s => lift (items? v.d) s := (rfl)
theorem rng_i {z : Bool} : (ev F (.rng a)).i z s = ((ev F a).p s).bind fun x s => match x with
  | .int n => if small n ∧ n ≤ big then .ok (upTo 0 n.toNat) s else .bad
  | _ => .bad := (rfl)
theorem rng2_i {z : Bool} : (ev F (.rng2 a b)).i z s = ((ev F a).p s).bind fun x s => ((ev F b).p s).bind fun y s => match x, y with
  | .int l, .int h => if small l ∧ small h ∧ h - l ≤ big then .ok (upTo l (h - l).toNat) s else .bad
  | _, _ => .bad := (rfl)
theorem enum_i {z : Bool} : (ev F (.enum a)).i z s = (sOne (ev F a) z s).bind fun v s => (lift (lstItems? v) s).bind fun xs s => .ok (enumD 0 xs) s := rfl
theorem zipS_i {z : Bool} : (ev F (.zipS a)).i z s = (sOne (ev F a) z s).bind fun v s => (lift ((items? v).bind allItems?) s).bind fun xss s => .ok (zipN xss) s := rfl
def tryK (o : Option Bool) (j : Nat) (f : St → Out) (s : St) : Out := match o with
      | some true => f s
      | some false => .xc j s
      | none => .bad
@[simp] theorem tryK_t {j : Nat} {f : St → Out} : tryK (some true) j f s = f s := (rfl)
@[simp] theorem tryK_f {j : Nat} {f : St → Out} : tryK (some false) j f s = .xc j s := (rfl)
def tryO (P : Par) (k : Nat) (f : St → Out) (o : Out) : Out := match o with
    | .xc j s => tryK (P.xm j k) j f s
    | o => o
@[simp] theorem tryO_x {k j : Nat} {f : St → Out} : tryO P k f (.xc j s) = tryK (P.xm j k) j f s := (rfl)
@[simp] theorem tryO_n {k : Nat} {f : St → Out} : tryO P k f (.nx s) = .nx s := (rfl)
@[simp] theorem tryO_r {k : Nat} {f : St → Out} {v : B} : tryO P k f (.rt v s) = .rt v s := (rfl)
@[simp] theorem exec_try {x y : List S} {k : Nat} : exec P F (.try_ x k y) s = tryO P k (execs P F y) (execs P F x s) := (rfl)
@[simp] theorem exec_brk : exec P F .brk s = .bk s := (rfl)
@[simp] theorem exec_cnt : exec P F .cnt s = .ct s := (rfl)
theorem exec_while {x : List S} : exec P F (.while_ a x) s = whileL (ev F a).t (execs P F x) P.W s := rfl
def cupO (i : Nat) (s : St) (o : Option (Int × Int)) (k : Cup) : Out := match o, k with
    | some (x, y), none => if i < s.env.length then .nx { env := s.env.set i (some (.leaf .cup)), cup := some (x, y) } else .bad
    | _, _ => .bad
@[simp] theorem cupO_ok {x y : Int} : cupO i s (some (x, y)) none = if i < s.env.length then .nx { env := s.env.set i (some (.leaf .cup)), cup := some (x, y) } else .bad := (rfl)
@[simp] theorem exec_cupS : exec P F (.cupS i e) s = ((ev F e).b s).out fun v s => cupO i s (cup2? v) s.cup := (rfl)
@[simp] theorem sPuts_nil : sPuts [] [] s = .ok () s := (rfl)
@[simp] theorem sPuts_cons {j : Nat} {is : List Nat} {v : B} {vs : List B} : sPuts (j :: is) (v :: vs) s = if j < s.env.length then sPuts is vs (setS s j v.t) else .bad := (rfl)
@[simp] theorem no2_nil : no2 [] = true := (rfl)
@[simp] theorem no2_val {d : D} {vs : List B} : no2 (.val d :: vs) = no2 vs := (rfl)
@[simp] theorem no2_new {d : List D} {vs : List B} : no2 (.new d :: vs) = no2 vs := (rfl)
@[simp] theorem bt_val {d : D} : (B.val d).t = .leaf d := (rfl)
@[simp] theorem bt_new {d : List D} : (B.new d).t = .own d := (rfl)
@[simp] theorem td_leaf {d : D} : (T.leaf d).d = d := (rfl)
@[simp] theorem td_own {d : List D} : (T.own d).d = .lst d := (rfl)
@[simp] theorem lift_none {α : Type} : lift (none : Option α) s = .bad := (rfl)
@[simp] theorem bind_bad {α β : Type} {f : α → St → R β} : (R.bad : R α).bind f = .bad := (rfl)
@[simp] theorem put_var {k : Nat} {v : B} : (ev F (.ix (.var k) b)).g v s = put1 k (ev F b) v s := (rfl)
@[simp] theorem put_var2 {k : Nat} {v : B} : (ev F (.ix (.ix (.var k) a) b)).g v s = put2 k (ev F a) (ev F b) v s := (rfl)
@[simp] theorem tb_leaf {d : D} : (T.leaf d).b = .val d := (rfl)
@[simp] theorem tb_own {d : List D} : (T.own d).b = .new d := (rfl)
@[simp] theorem kept_some {x y : Int × Int} {r : CR} : kept (some x) (some y) r = r := by unfold kept; simp
@[simp] theorem all_const {α : Type} (l : List α) : (l.all fun _ => true) = true := by simp [List.all_eq_true]
@[simp] theorem varI_own2 {z : Bool} {xss : List (List D)} : varI z (some (.own2 xss)) i s = .ok (xss.map .lst) (setS s i (if z then .leaf (.lst (xss.map .lst)) else .own (xss.map .lst))) := (rfl)
@[simp] theorem bt_new2 {d : List (List D)} : (B.new2 d).t = .own2 d := (rfl)
def retO (t : Option T) (s : St) : R B := match t with
    | some t => .ok t.b s
    | none => .bad
@[simp] theorem retO_some {t : T} : retO (some t) s = .ok t.b s := (rfl)
@[simp] theorem ret_var {l : List (Option T)} {k : Cup} : retB F (.var i) ⟨l, k⟩ = retO ((l[i]?).bind id) ⟨l, k⟩ := (rfl)
@[simp] theorem ret_tup {es : List E} : retB F (.tup es) s = (ev F (.tup es)).b s := (rfl)
@[simp] theorem ret_lst {es : List E} : retB F (.lst es) s = (ev F (.lst es)).b s := (rfl)
@[simp] theorem ret_bin {o : Op} : retB F (.bin o a b) s = (ev F (.bin o a b)).b s := (rfl)
@[simp] theorem ret_neg : retB F (.neg a) s = (ev F (.neg a)).b s := (rfl)
@[simp] theorem ret_not : retB F (.not a) s = (ev F (.not a)).b s := (rfl)
@[simp] theorem ret_and : retB F (.and a b) s = (ev F (.and a b)).b s := (rfl)
@[simp] theorem ret_or : retB F (.or a b) s = (ev F (.or a b)).b s := (rfl)
@[simp] theorem ret_cmp {o : Cp} : retB F (.cmp o a b) s = (ev F (.cmp o a b)).b s := (rfl)
@[simp] theorem ret_chain {o q : Cp} : retB F (.chain o q a b c) s = (ev F (.chain o q a b c)).b s := (rfl)
@[simp] theorem ret_ife : retB F (.ife c a b) s = (ev F (.ife c a b)).b s := (rfl)
@[simp] theorem ret_call : retB F (.call i es) s = (ev F (.call i es)).b s := (rfl)
@[simp] theorem ret_bi {f : Bi} : retB F (.bi f es) s = (ev F (.bi f es)).b s := (rfl)
@[simp] theorem ret_isi {t : Ty} : retB F (.isi t a) s = (ev F (.isi t a)).b s := (rfl)
@[simp] theorem ret_ix : retB F (.ix a b) s = (ev F (.ix a b)).b s := (rfl)
@[simp] theorem ret_sl : retB F (.sl a b c) s = (ev F (.sl a b c)).b s := (rfl)
@[simp] theorem ret_rev : retB F (.rev a) s = (ev F (.rev a)).b s := (rfl)
@[simp] theorem ret_comp {vs : List Nat} {g it : E} : retB F (.comp vs g it a b) s = (ev F (.comp vs g it a b)).b s := (rfl)
@[simp] theorem ret_con {d : D} : retB F (.con d) s = (ev F (.con d)).b s := (rfl)
/-- what a call hands back -/
def fin (c : Cup) (o : Out) : CR := match o with
  | .nx s => kept c s.cup (.ok (.val .non) s.cup)
  | .rt b s => kept c s.cup (.ok b s.cup)
  | .xc k s => kept c s.cup (.exc k s.cup)
  | _ => .bad
@[simp] theorem fin_nx {k : Cup} : fin k (.nx s) = kept k s.cup (.ok (.val .non) s.cup) := (rfl)
@[simp] theorem fin_rt {k : Cup} {v : B} : fin k (.rt v s) = kept k s.cup (.ok v s.cup) := (rfl)
@[simp] theorem fin_xc {k : Cup} {j : Nat} : fin k (.xc j s) = kept k s.cup (.exc j s.cup) := (rfl)
theorem run_fin {np ns : Nat} {body : List S} {vs : List D} {k : Cup} {s : St} (h : vs.length = np) (hs : startS ns vs k = s) : runB P F ⟨np, ns, body⟩ vs k = fin k (execs P F body s) := by
  unfold runB
  rw [if_pos h, hs]; rfl
/-! ranges -/
theorem small_nat (k : Nat) (h : k ≤ big) : small (k : Int) = true := by
  unfold small; unfold big at h
  rw [decide_eq_true (by omega), decide_eq_true (by omega)]; rfl
theorem rng_nat {z : Bool} {k : Nat} {s1 : St} (h : (ev F a).p s = .ok (.int (k : Int)) s1) (hb : k ≤ big) : (ev F (.rng a)).i z s = .ok ((List.range k).map fun (j : Nat) => .int (j : Int)) s1 := by
  rw [rng_i, h, bind_ok]
  show (if small (k : Int) = true ∧ (k : Int) ≤ (big : Int) then R.ok (upTo 0 (k : Int).toNat) s1 else .bad) = _
  rw [if_pos ⟨small_nat k hb, by omega⟩, Int.toNat_natCast]
  unfold upTo
  simp
theorem rng2_nat {z : Bool} {l h : Nat} {s1 s2 : St} (h1 : (ev F a).p s = .ok (.int (l : Int)) s1) (h2 : (ev F b).p s1 = .ok (.int (h : Int)) s2) (hl : l ≤ big) (hb : h ≤ big) : (ev F (.rng2 a b)).i z s = .ok ((List.range (h - l)).map fun (j : Nat) => .int ((l + j : Nat) : Int)) s2 := by
  rw [rng2_i, h1, bind_ok, h2, bind_ok]
  show (if small (l : Int) = true ∧ small (h : Int) = true ∧ (h : Int) - (l : Int) ≤ (big : Int) then R.ok (upTo l ((h : Int) - (l : Int)).toNat) s2 else .bad) = _
  rw [if_pos ⟨small_nat l hl, small_nat h hb, by omega⟩]
  have : ((h : Int) - (l : Int)).toNat = h - l := by omega
  rw [this]
  unfold upTo
  simp
inductive All2 {α β : Type} (Q : α → β → Prop) : List α → List β → Prop where
  | nil : All2 Q [] []
  | cons {x : α} {y : β} {xs : List α} {ys : List β} : Q x y → All2 Q xs ys → All2 Q (x :: xs) (y :: ys)
theorem All2.len {α β : Type} {Q : α → β → Prop} {xs : List α} {ys : List β} (h : All2 Q xs ys) : ys.length = xs.length := by
  induction h with
  | nil => rfl
  | cons _ _ ih => simp [ih]
theorem All2.right {α β : Type} {Q : α → β → Prop} {R : β → Prop} {xs : List α} {ys : List β} (h : All2 Q xs ys) (f : ∀ x y, Q x y → R y) : ∀ y ∈ ys, R y := by
  induction h with
  | nil => simp
  | cons q _ ih => intro y hy; rcases List.mem_cons.1 hy with rfl | hy; exact f _ _ q; exact ih y hy
/-! a loop by what holds behind each turn -/
theorem forL_rel {g : B → St → R Unit} {body : St → Out} (I : Nat → St → Prop) : ∀ (xs : List D) (k : Nat) (s : St), I k s →
    (∀ j x s, xs[j]? = some x → I (k + j) s → ∃ s1 s2, g (.val x) s = .ok () s1 ∧ (body s1 = .nx s2 ∨ body s1 = .ct s2) ∧ I (k + j + 1) s2) → ∃ s', forL g body xs s = .nx s' ∧ I (k + xs.length) s'
  | [], k, s, h, _ => ⟨s, rfl, h⟩
  | x :: xs, k, s, h, step => by
    obtain ⟨s1, s2, e1, e2, h2⟩ := step 0 x s rfl h
    obtain ⟨s', e3, h3⟩ := forL_rel I xs (k + 1) s2 h2 (fun j y s hy hI => by
      have := step (j + 1) y s (by simpa using hy) (by rw [show k + (j + 1) = k + 1 + j by omega]; exact hI)
      obtain ⟨s1, s2, a1, a2, a3⟩ := this
      exact ⟨s1, s2, a1, a2, by rw [show k + (j + 1) + 1 = k + 1 + j + 1 by omega] at a3; exact a3⟩)
    refine ⟨s', ?_, by rw [List.length_cons, show k + (xs.length + 1) = k + 1 + xs.length by omega]; exact h3⟩
    simp only [forL, e1, out_ok]
    rcases e2 with e2 | e2 <;> rw [e2] <;> exact e3
/-! comprehensions -/
/-- pure, without a test: the items typed -/
theorem comp_J {α β : Type} [Em β] {g it : E} {vs : List Nat} (emb : α → D) (f : α → β) {l : List α} {s s2 : St} (hi : (ev F it).i false s = .ok (l.map emb) s2) (hl : leafs s2 vs = true) (hb : l.length ≤ big)
    (h : ∀ x ∈ l, turn1 vs (ev F g).g (ev F (.con (.bl true))).t (ev F e).b (emb x) { s2 with env := wipe s2.env vs } = .ok (some (.val (em (f x)))) { s2 with env := wipe s2.env vs }) :
    (ev F (.comp vs g it (.con (.bl true)) e)).b s = .ok (.new (JL (l.map f))) { s2 with env := back s2.env (wipe s2.env vs) vs } := by
  rw [comp_map emb (fun x => em (f x)) hi hl hb h]
  unfold JL
  rw [List.map_map]; rfl
/-- pure, with a test -/
theorem comp_F {α β : Type} [Em β] {g it : E} {vs : List Nat} (emb : α → D) (p : α → Bool) (f : α → β) {l : List α} {s s2 : St} (hi : (ev F it).i false s = .ok (l.map emb) s2) (hl : leafs s2 vs = true) (hb : l.length ≤ big)
    (h : ∀ x ∈ l, turn1 vs (ev F g).g (ev F c).t (ev F e).b (emb x) { s2 with env := wipe s2.env vs } = .ok (if p x then some (.val (em (f x))) else none) { s2 with env := wipe s2.env vs }) :
    (ev F (.comp vs g it c e)).b s = .ok (.new (JL ((l.filter p).map f))) { s2 with env := back s2.env (wipe s2.env vs) vs } := by
  show ((ev F it).i false s).bind _ = _
  rw [hi, bind_ok, if_pos (by rw [hl, List.length_map, decide_eq_true hb]; rfl)]
  have key : ∀ (l : List α) (acc : List B), (∀ x ∈ l, turn1 vs (ev F g).g (ev F c).t (ev F e).b (emb x) { s2 with env := wipe s2.env vs } = .ok (if p x then some (.val (em (f x))) else none) { s2 with env := wipe s2.env vs }) →
      turns vs (ev F g).g (ev F c).t (ev F e).b (l.map emb) acc { s2 with env := wipe s2.env vs } = .ok (acc ++ (JL ((l.filter p).map f)).map .val) { s2 with env := wipe s2.env vs } := by
    intro l
    induction l with
    | nil => intro acc _; simp [turns]
    | cons x l ih =>
      intro acc h
      rw [List.map_cons, turns_cons, h x List.mem_cons_self, bind_ok, ih _ fun y hy => h y (List.mem_cons_of_mem _ hy)]
      cases q : p x <;> simp [q, JL_cons, List.filter_cons]
  rw [key l [] h]
  show (lift (gather ([] ++ _)) _ : R B) = _
  rw [List.nil_append, gather_vals]
  rfl
/-- new lists all -/
theorem comp_2 {α : Type} {g it : E} {vs : List Nat} (emb : α → D) (f : α → List D) {l : List α} {s s2 : St} (hi : (ev F it).i false s = .ok (l.map emb) s2) (hl : leafs s2 vs = true) (hb : l.length ≤ big) (h0 : l ≠ [])
    (h : ∀ x ∈ l, turn1 vs (ev F g).g (ev F (.con (.bl true))).t (ev F e).b (emb x) { s2 with env := wipe s2.env vs } = .ok (some (.new (f x))) { s2 with env := wipe s2.env vs }) :
    (ev F (.comp vs g it (.con (.bl true)) e)).b s = .ok (.new2 (l.map f)) { s2 with env := back s2.env (wipe s2.env vs) vs } := by
  show ((ev F it).i false s).bind _ = _
  rw [hi, bind_ok, if_pos (by rw [hl, List.length_map, decide_eq_true hb]; rfl)]
  have key : ∀ (l : List α) (acc : List B), (∀ x ∈ l, turn1 vs (ev F g).g (ev F (.con (.bl true))).t (ev F e).b (emb x) { s2 with env := wipe s2.env vs } = .ok (some (.new (f x))) { s2 with env := wipe s2.env vs }) →
      turns vs (ev F g).g (ev F (.con (.bl true))).t (ev F e).b (l.map emb) acc { s2 with env := wipe s2.env vs } = .ok (acc ++ (l.map f).map .new) { s2 with env := wipe s2.env vs } := by
    intro l
    induction l with
    | nil => intro acc _; simp [turns]
    | cons x l ih =>
      intro acc h
      rw [List.map_cons, turns_cons, h x List.mem_cons_self, bind_ok, ih _ fun y hy => h y (List.mem_cons_of_mem _ hy)]
      simp
  rw [key l [] h]
  show (lift (gather ([] ++ _)) _ : R B) = _
  have hn : ∀ ls : List (List D), news? (ls.map .new) = some ls := by
    intro ls
    induction ls with
    | nil => rfl
    | cons x ls ih => simp [news?, ih]
  have hg : gather ((l.map f).map .new) = some (.new2 (l.map f)) := by
    unfold gather
    rw [hn]
    cases l with
    | nil => exact absurd rfl h0
    | cons x l => rfl
  rw [List.nil_append, hg]
  rfl
/-- a row of a table; an item of a row -/
def rowAt {α : Type} (t : List (List α)) (a : Nat) : List α := t.getD a []
def itAt (r : List Int) (a : Nat) : Int := r.getD a 0
/-- a place of a table set -/
def setP {α : Type} (t : List (List α)) (a b : Nat) (v : α) : List (List α) := t.set a ((rowAt t a).set b v)
theorem setP_len {α : Type} (t : List (List α)) (a b : Nat) (v : α) : (setP t a b v).length = t.length := by simp [setP]
theorem setP_row {α : Type} (t : List (List α)) (a b k : Nat) (v : α) : (rowAt (setP t a b v) k).length = (rowAt t k).length := by
  unfold setP rowAt
  simp only [List.getD_eq_getElem?_getD, List.getElem?_set]
  by_cases h : a = k
  · subst h
    by_cases h2 : a < t.length
    · simp [h2]
    · simp [h2]
  · simp [h]
theorem put2_ok {α : Type} [Em α] {k : Nat} {env : List (Option T)} {cu : Cup} {t : List (List α)} {i j : Int} (v : α) (hs : (env[k]?).bind id = some (.own2 (t.map JL))) (e1 : (ev F a).p ⟨env, cu⟩ = .ok (.int i) ⟨env, cu⟩) (e2 : (ev F b).p ⟨env, cu⟩ = .ok (.int j) ⟨env, cu⟩)
    (h0 : 0 ≤ i) (h1 : i.toNat < t.length) (h2 : 0 ≤ j) (h3 : j.toNat < (rowAt t i.toNat).length) :
    put2 k (ev F a) (ev F b) (.val (em v)) ⟨env, cu⟩ = .ok () ⟨env.set k (some (.own2 ((setP t i.toNat j.toNat v).map JL))), cu⟩ := by
  have hp : place t.length i = some i.toNat := by unfold place; rw [if_pos h0, if_pos (by omega)]
  have hr : (t.map JL)[i.toNat]? = some (JL (rowAt t i.toNat)) := by
    rw [List.getElem?_map, rowAt, List.getD_eq_getElem?_getD]
    rw [List.getElem?_eq_getElem h1]; rfl
  have hp2 : place (JL (rowAt t i.toNat)).length j = some j.toNat := by unfold place; rw [if_pos h2, JL_len, if_pos (by omega)]
  have hset : (t.map JL).set i.toNat ((JL (rowAt t i.toNat)).set j.toNat (em v)) = (setP t i.toNat j.toNat v).map JL := by
    unfold setP
    rw [JL_set, List.map_set]
  unfold put2
  simp only [getS_mk, hs, e1, bind_ok, hp, List.length_map, h1, if_true, e2, hr, hp2, setS_mk, val_d, hset]
theorem put2_nat {k : Nat} {env : List (Option T)} {cu : Cup} {t : List (List Int)} {i j : Nat} (v : Int) (hs : (env[k]?).bind id = some (.own2 (t.map JL))) (e1 : (ev F a).p ⟨env, cu⟩ = .ok (.int i) ⟨env, cu⟩) (e2 : (ev F b).p ⟨env, cu⟩ = .ok (.int j) ⟨env, cu⟩)
    (h1 : i < t.length) (h3 : j < (rowAt t i).length) :
    put2 k (ev F a) (ev F b) (.val (.int v)) ⟨env, cu⟩ = .ok () ⟨env.set k (some (.own2 ((setP t i j v).map JL))), cu⟩ := by
  have := put2_ok (F := F) (a := a) (b := b) (k := k) (env := env) (cu := cu) (t := t) (i := (i : Int)) (j := (j : Int)) v hs e1 e2 (by omega) (by rw [Int.toNat_natCast]; exact h1) (by omega) (by rw [Int.toNat_natCast, Int.toNat_natCast]; exact h3)
  rw [Int.toNat_natCast, Int.toNat_natCast] at this
  exact this
/-- the cup goes along: what is built, by a relation -/
theorem comp_R {α β : Type} [Em β] {g it : E} {vs : List Nat} (emb : α → D) (Gd : Cup → Prop) (Q : α → β → Prop) {l : List α} {s s2 : St} (hi : (ev F it).i false s = .ok (l.map emb) s2) (hl : leafs s2 vs = true) (hb : l.length ≤ big) (hg : Gd s2.cup)
    (h : ∀ x ∈ l, ∀ k, Gd k → ∃ (y : β) (k' : Cup), turn1 vs (ev F g).g (ev F c).t (ev F e).b (emb x) ⟨wipe s2.env vs, k⟩ = .ok (some (.val (em y))) ⟨wipe s2.env vs, k'⟩ ∧ Q x y ∧ Gd k') :
    ∃ (ys : List β) (k' : Cup), (ev F (.comp vs g it c e)).b s = .ok (.new (JL ys)) ⟨back s2.env (wipe s2.env vs) vs, k'⟩ ∧ All2 Q l ys ∧ Gd k' := by
  have key : ∀ (l : List α) (acc : List B) (k : Cup), Gd k → (∀ x ∈ l, ∀ k, Gd k → ∃ (y : β) (k' : Cup), turn1 vs (ev F g).g (ev F c).t (ev F e).b (emb x) ⟨wipe s2.env vs, k⟩ = .ok (some (.val (em y))) ⟨wipe s2.env vs, k'⟩ ∧ Q x y ∧ Gd k') →
      ∃ (ys : List β) (k' : Cup), turns vs (ev F g).g (ev F c).t (ev F e).b (l.map emb) acc ⟨wipe s2.env vs, k⟩ = .ok (acc ++ (JL ys).map .val) ⟨wipe s2.env vs, k'⟩ ∧ All2 Q l ys ∧ Gd k' := by
    intro l
    induction l with
    | nil => intro acc k hk _; exact ⟨[], k, by simp [turns], .nil, hk⟩
    | cons x l ih =>
      intro acc k hk h
      obtain ⟨y, k1, e1, q1, g1⟩ := h x List.mem_cons_self k hk
      obtain ⟨ys, k2, e2, q2, g2⟩ := ih (acc ++ [.val (em y)]) k1 g1 fun y hy => h y (List.mem_cons_of_mem _ hy)
      refine ⟨y :: ys, k2, ?_, .cons q1 q2, g2⟩
      rw [List.map_cons, turns_cons, e1, bind_ok]
      show turns _ _ _ _ _ (acc ++ [.val (em y)]) _ = _
      rw [e2, JL_cons]; simp
  obtain ⟨ys, k', e1, q, g1⟩ := key l [] s2.cup hg h
  refine ⟨ys, k', ?_, q, g1⟩
  show ((ev F it).i false s).bind _ = _
  rw [hi, bind_ok, if_pos (by rw [hl, List.length_map, decide_eq_true hb]; rfl)]
  show (calm (turns vs (ev F g).g (ev F c).t (ev F e).b (l.map emb) [] ⟨wipe s2.env vs, s2.cup⟩)).bind _ = _
  rw [e1]
  show (lift (gather ([] ++ _)) _ : R B) = _
  rw [List.nil_append, gather_vals]
  rfl
/-- a loop that adds one item each turn; the cup goes along -/
theorem for_app {α β : Type} [Em β] {g : B → St → R Unit} {body : St → Out} (emb : α → D) (Gd : Cup → Prop) (Q : α → β → Prop) (V : Option T → List D → List (Option T)) : ∀ (l : List α) (acc : List β) (o : Option T) (k : Cup), acc.length + l.length ≤ big → Gd k →
    (∀ x ∈ l, ∀ o acc k, Gd k → g (.val (emb x)) ⟨V o acc, k⟩ = .ok () ⟨V (some (.leaf (emb x))) acc, k⟩) →
    (∀ x ∈ l, ∀ (acc : List β) k, acc.length < big → Gd k → ∃ (y : β) (k' : Cup), body ⟨V (some (.leaf (emb x))) (JL acc), k⟩ = .nx ⟨V (some (.leaf (emb x))) (JL (acc ++ [y])), k'⟩ ∧ Q x y ∧ Gd k') →
    ∃ (ys : List β) (o' : Option T) (k' : Cup), forL g body (l.map emb) ⟨V o (JL acc), k⟩ = .nx ⟨V o' (JL (acc ++ ys)), k'⟩ ∧ All2 Q l ys ∧ Gd k'
  | [], acc, o, k, _, hk, _, _ => ⟨[], o, k, by simp, .nil, hk⟩
  | x :: l, acc, o, k, hl, hk, h1, h2 => by
    simp only [List.length_cons] at hl
    obtain ⟨y, k1, e1, q1, g1⟩ := h2 x List.mem_cons_self acc k (by omega) hk
    obtain ⟨ys, o', k', e2, q2, g2⟩ := for_app emb Gd Q V l (acc ++ [y]) (some (.leaf (emb x))) k1 (by simp; omega) g1 (fun z hz => h1 z (List.mem_cons_of_mem _ hz)) (fun z hz => h2 z (List.mem_cons_of_mem _ hz))
    refine ⟨y :: ys, o', k', ?_, .cons q1 q2, g2⟩
    rw [List.map_cons, forL_cons, h1 x List.mem_cons_self _ _ _ hk, out_ok, e1, forO_nx, e2]
    simp
theorem All2.eq {α β : Type} {f : α → β} {xs : List α} {ys : List β} (h : All2 (fun x y => y = f x) xs ys) : ys = xs.map f := by
  induction h with
  | nil => rfl
  | cons q _ ih => simp [q, ih]
/-- the same, pure -/
theorem for_appP {α β : Type} [Em β] {g : B → St → R Unit} {body : St → Out} (emb : α → D) (f : α → β) (V : Option T → List D → List (Option T)) (l : List α) (acc : List β) (o : Option T) (k : Cup) (hl : acc.length + l.length ≤ big)
    (h1 : ∀ x ∈ l, ∀ o acc, g (.val (emb x)) ⟨V o acc, k⟩ = .ok () ⟨V (some (.leaf (emb x))) acc, k⟩)
    (h2 : ∀ x ∈ l, ∀ (acc : List β), acc.length < big → body ⟨V (some (.leaf (emb x))) (JL acc), k⟩ = .nx ⟨V (some (.leaf (emb x))) (JL (acc ++ [f x])), k⟩) :
    ∃ o' : Option T, forL g body (l.map emb) ⟨V o (JL acc), k⟩ = .nx ⟨V o' (JL (acc ++ l.map f)), k⟩ := by
  have hh := for_app (g := g) (body := body) emb (fun c => c = k) (fun x y => y = f x) V l acc o k hl rfl (fun x hx o acc k2 hk2 => ?_) (fun x hx acc k2 ha hk2 => ?_)
  · obtain ⟨ys, o', k', e, q, rfl⟩ := hh
    exact ⟨o', by rw [e, q.eq]⟩
  · subst hk2; exact h1 x hx o acc
  · subst hk2; exact ⟨f x, k2, h2 x hx acc ha, rfl, rfl⟩
/-- it ends with True -/
def TT (o : Out) : Prop := ∃ s', o = .rt (.val (.bl true)) s'
@[simp] theorem TT_rt {s : St} : TT (.rt (.val (.bl true)) s) := ⟨s, rfl⟩
end Ev

/-! more on comprehensions; plain data of any kind -/
namespace Ev
open PySem
variable {F : Fn} {P : Par} {s : St} {a b c e : E} {es : List E} {i : Nat}
@[simp] theorem comp2_p {vs vs1 : List Nat} {g it c g1 it1 c1 : E} : (ev F (.comp2 vs vs1 g it c g1 it1 c1 e)).p s = ((ev F (.comp2 vs vs1 g it c g1 it1 c1 e)).b s).bind fun v s => .ok v.d s := (rfl)
@[simp] theorem comp2_i {vs vs1 : List Nat} {g it c g1 it1 c1 : E} {z : Bool} : (ev F (.comp2 vs vs1 g it c g1 it1 c1 e)).i z s = ((ev F (.comp2 vs vs1 g it c g1 it1 c1 e)).b s).bind fun v s => lift (items? v.d) s := (rfl)
@[simp] theorem ret_comp2 {vs vs1 : List Nat} {g it c g1 it1 c1 : E} : retB F (.comp2 vs vs1 g it c g1 it1 c1 e) s = (ev F (.comp2 vs vs1 g it c g1 it1 c1 e)).b s := (rfl)
def partK (d : D) (s : St) : R D := match d with
    | .int i => .ok (.int i) s
    | _ => .bad
@[simp] theorem partK_i {j : Int} : partK (.int j) s = .ok (.int j) s := (rfl)
@[simp] theorem sl_b : (ev F (.sl a b c)).b s = ((ev F a).p s).bind fun x s => ((sPart b (ev F b)).p s).bind fun y s => (lift (part? y) s).bind fun y s => ((sPart c (ev F c)).p s).bind fun z s => (lift (part? z) s).bind fun z s => lift (slop x y z) s := (rfl)
@[simp] theorem sPart_non {m : Sm} : (sPart (.con .non) m).p s = m.p s := (rfl)
@[simp] theorem sPart_int {m : Sm} {j : Int} : (sPart (.con (.int j)) m).p s = (m.p s).bind partK := (rfl)
@[simp] theorem sPart_var {m : Sm} : (sPart (.var i) m).p s = (m.p s).bind partK := (rfl)
@[simp] theorem sPart_bin {m : Sm} {o : Op} : (sPart (.bin o a b) m).p s = (m.p s).bind partK := (rfl)
@[simp] theorem sPart_neg {m : Sm} : (sPart (.neg a) m).p s = (m.p s).bind partK := (rfl)
@[simp] theorem sPart_bi {m : Sm} {f : Bi} : (sPart (.bi f es) m).p s = (m.p s).bind partK := (rfl)
@[simp] theorem part_non : part? .non = some none := (rfl)
@[simp] theorem part_int {j : Int} : part? (.int j) = some (some j) := (rfl)
@[simp] theorem slop_tup {xs : List D} {l h : Option Int} : slop (.tup xs) l h = some (.val (.tup (cut xs l h))) := (rfl)
@[simp] theorem slop_lst {xs : List D} {l h : Option Int} : slop (.lst xs) l h = some (.new (cut xs l h)) := (rfl)
/-- plain items, not many -/
def AP (k N : Nat) (xs : List D) : Prop := xs.length ≤ N ∧ ∀ x ∈ xs, PlD k x
theorem AP.nil (k : Nat) : AP k 0 [] := ⟨by simp, fun x hx => nomatch hx⟩
theorem AP.cons {k N : Nat} {x : D} {xs : List D} (h : PlD k x) (hs : AP k N xs) : AP k (N + 1) (x :: xs) := ⟨by simp; exact hs.1, fun y hy => by
  rcases List.mem_cons.1 hy with rfl | hy
  · exact h
  · exact hs.2 y hy⟩
theorem AP.app {k N M : Nat} {xs ys : List D} (h : AP k N xs) (g : AP k M ys) : AP k (N + M) (xs ++ ys) := ⟨by rw [List.length_append]; have := h.1; have := g.1; omega, fun y hy => by
  rcases List.mem_append.1 hy with hy | hy
  · exact h.2 y hy
  · exact g.2 y hy⟩
theorem AP.cut {k N : Nat} {xs : List D} (h : AP k N xs) (lo hi : Option Int) : AP k N (cut xs lo hi) := ⟨by
  unfold Ev.cut
  have h1 := h.1
  rw [List.length_take, List.length_drop]; omega, fun y hy => h.2 y (List.mem_of_mem_drop (List.mem_of_mem_take hy))⟩
theorem AP.tup {k N : Nat} {xs : List D} (h : AP k N xs) (hN : N ≤ 1000000) : PlD (k + 1) (.tup xs) := .tup k xs (by have := h.1; unfold big; omega) h.2
theorem AP.lst {k N : Nat} {xs : List D} (h : AP k N xs) (hN : N ≤ 1000000) : PlD (k + 1) (.lst xs) := .lst k xs (by have := h.1; unfold big; omega) h.2
theorem AP.mono {k N k' N' : Nat} {xs : List D} (h : AP k N xs) (hk : k ≤ k') (hN : N ≤ N') : AP k' N' xs := ⟨Nat.le_trans h.1 hN, fun x hx => (h.2 x hx).mono k' hk⟩
theorem AP.JL {k : Nat} {xs : List Int} : AP k xs.length (JL xs) := ⟨by rw [JL_len]; exact Nat.le_refl _, fun x hx => by
  obtain ⟨y, _, rfl⟩ := List.mem_map.1 hx
  exact .int k y⟩
theorem AP.rep {k N : Nat} {xs : List D} (h : AP k N xs) (m : Nat) : AP k (m * N) (rep m xs) := by
  induction m with
  | zero => exact (AP.nil k).mono (Nat.le_refl _) (by omega)
  | succ m ih =>
    have e : Ev.rep (m + 1) xs = xs ++ Ev.rep m xs := by unfold Ev.rep; rw [List.replicate_succ, List.flatten_cons]
    rw [e]
    exact (h.app ih).mono (Nat.le_refl _) (by rw [Nat.add_mul]; omega)
theorem isTy_pl {k : Nat} {d : D} (h : PlD k d) (t : Ty) : ∃ b, isTy t d = some b ∧ (t = .tuple → b = (match d with | .tup _ => true | _ => false)) ∧ (t = .int → b = (match d with | .int _ => true | .bl _ => true | _ => false)) ∧ (t = .bool → b = (match d with | .bl _ => true | _ => false)) := by
  cases h <;> cases t <;> exact ⟨_, rfl, by simp, by simp, by simp⟩
/-- a filter over items of any kind -/
theorem comp_D {g it : E} {vs : List Nat} {s2 : St} {xs : List D} (p : D → Bool) (hi : (ev F it).i false s = .ok xs s2) (hl : leafs s2 vs = true) (hb : xs.length ≤ big)
    (h : ∀ x ∈ xs, turn1 vs (ev F g).g (ev F c).t (ev F e).b x { s2 with env := wipe s2.env vs } = .ok (if p x then some (.val x) else none) { s2 with env := wipe s2.env vs }) :
    (ev F (.comp vs g it c e)).b s = .ok (.new (xs.filter p)) { s2 with env := back s2.env (wipe s2.env vs) vs } := by
  have hh := comp_pure (F := F) (g := g) (it := it) (c := c) (e := e) (vs := vs) (s := s) (s2 := s2) (xs := xs) (fun x => if p x then some x else none) hi hl hb (fun x hx => by
    rw [h x hx]
    cases p x <;> rfl)
  rw [hh]
  have : xs.filterMap (fun x => if p x then some x else none) = xs.filter p := by
    rw [← List.filterMap_eq_filter]
    rfl
  rw [this]
theorem turns_app {vs : List Nat} {g : B → St → R Unit} {c : St → R Bool} {e : St → R B} {α : Type} (emb f : α → D) {s : St} : ∀ {l : List α} {acc : List B}, (∀ x ∈ l, turn1 vs g c e (emb x) s = .ok (some (.val (f x))) s) → turns vs g c e (l.map emb) acc s = .ok (acc ++ (l.map f).map .val) s := turns_map emb f
/-- two clauses, pure, without tests -/
theorem comp2_J {α β γ : Type} [Em γ] {g it g1 it1 : E} {vs vs1 : List Nat} (emb : α → D) (emb1 : β → D) (f : α → List β) (h : α → β → γ) (Sx : α → St) {l : List α} {s2 : St} (hi : (ev F it).i false s = .ok (l.map emb) s2) (hl : leafs s2 vs = true) (hvs : vs1.all (vs.contains ·) = true)
    (hb : (l.flatMap f).length ≤ big)
    (h1 : ∀ x ∈ l, (ev F g).g (.val (emb x)) { s2 with env := wipe s2.env vs } = .ok () (Sx x))
    (h2 : ∀ x ∈ l, (ev F it1).i true (Sx x) = .ok ((f x).map emb1) (Sx x))
    (h3 : ∀ x ∈ l, ∀ y ∈ f x, turn1 vs1 (ev F g1).g (ev F (.con (.bl true))).t (ev F e).b (emb1 y) { Sx x with env := wipe (Sx x).env vs1 } = .ok (some (.val (em (h x y)))) { Sx x with env := wipe (Sx x).env vs1 })
    (h4 : ∀ x ∈ l, (⟨wipe (wipe (Sx x).env vs1) vs, (Sx x).cup⟩ : St) = { s2 with env := wipe s2.env vs }) :
    (ev F (.comp2 vs vs1 g it (.con (.bl true)) g1 it1 (.con (.bl true)) e)).b s = .ok (.new (JL (l.flatMap fun x => (f x).map (h x)))) { s2 with env := back s2.env (wipe s2.env vs) vs } := by
  have key : ∀ (l : List α) (acc : List B), (∀ x ∈ l, (ev F g).g (.val (emb x)) { s2 with env := wipe s2.env vs } = .ok () (Sx x)) → (∀ x ∈ l, (ev F it1).i true (Sx x) = .ok ((f x).map emb1) (Sx x)) →
      (∀ x ∈ l, ∀ y ∈ f x, turn1 vs1 (ev F g1).g (ev F (.con (.bl true))).t (ev F e).b (emb1 y) { Sx x with env := wipe (Sx x).env vs1 } = .ok (some (.val (em (h x y)))) { Sx x with env := wipe (Sx x).env vs1 }) →
      (∀ x ∈ l, (⟨wipe (wipe (Sx x).env vs1) vs, (Sx x).cup⟩ : St) = { s2 with env := wipe s2.env vs }) →
      turns2 vs vs1 (ev F g).g (ev F (.con (.bl true))).t ((ev F it1).i true) (ev F g1).g (ev F (.con (.bl true))).t (ev F e).b (l.map emb) acc { s2 with env := wipe s2.env vs } =
        .ok (acc ++ (JL (l.flatMap fun x => (f x).map (h x))).map .val) { s2 with env := wipe s2.env vs } := by
    intro l
    induction l with
    | nil => intro acc _ _ _ _; simp [turns2]
    | cons x l ih =>
      intro acc h1 h2 h3 h4
      rw [List.map_cons]
      simp only [turns2]
      rw [h1 x List.mem_cons_self, bind_ok, con_t, truth_bl, lift_some, bind_ok]
      simp only
      rw [h2 x List.mem_cons_self, bind_ok, turns_map emb1 (fun y => em (h x y)) (h3 x List.mem_cons_self), bind_ok]
      have e4 := h4 x List.mem_cons_self
      simp only at e4 ⊢
      rw [e4, ih _ (fun y hy => h1 y (List.mem_cons_of_mem _ hy)) (fun y hy => h2 y (List.mem_cons_of_mem _ hy)) (fun y hy => h3 y (List.mem_cons_of_mem _ hy)) (fun y hy => h4 y (List.mem_cons_of_mem _ hy))]
      congr 1
      unfold JL
      simp [List.map_flatMap]
  have e0 : ((ev F it).i false s).bind (fun xs s => if (leafs s vs && vs1.all (vs.contains ·)) = true then
    (calm (turns2 vs vs1 (ev F g).g (ev F (.con (.bl true))).t ((ev F it1).i true) (ev F g1).g (ev F (.con (.bl true))).t (ev F e).b xs [] { s with env := wipe s.env vs })).bind fun acc s' => if acc.length ≤ big then lift (gather acc) { s' with env := back s.env s'.env vs } else .bad else .bad) = .ok (.new (JL (l.flatMap fun x => (f x).map (h x)))) { s2 with env := back s2.env (wipe s2.env vs) vs } := by
    rw [hi, bind_ok, if_pos (by rw [hl, hvs]; rfl), key l [] h1 h2 h3 h4]
    show (if ([] ++ (JL (l.flatMap fun x => (f x).map (h x))).map B.val).length ≤ big then _ else _) = _
    rw [List.nil_append, if_pos, gather_vals]
    · rfl
    · rw [List.length_map, JL_len]
      have : (l.flatMap fun x => (f x).map (h x)).length = (l.flatMap f).length := by simp [List.length_flatMap]
      rw [this]; exact hb
  exact e0
theorem op_addT {xs ys : List D} (h : xs.length + ys.length ≤ big) : binop .add (.tup xs) (.tup ys) = some (.val (.tup (xs ++ ys))) := by
  show (if xs.length + ys.length ≤ big then some (B.val (.tup (xs ++ ys))) else none) = _
  rw [if_pos h]
theorem op_addL {xs ys : List D} (h : xs.length + ys.length ≤ big) : binop .add (.lst xs) (.lst ys) = some (.new (xs ++ ys)) := by
  show (if xs.length + ys.length ≤ big then some (B.new (xs ++ ys)) else none) = _
  rw [if_pos h]
theorem op_mulT {xs : List D} {k : Int} (h : xs.length ≤ 1000) (h1 : -1000 ≤ k) (h2 : k ≤ 1000) : binop .mul (.tup xs) (.int k) = some (.val (.tup (rep k.toNat xs))) := by
  show (if xs.length ≤ 1000 ∧ -1000 ≤ k ∧ k ≤ 1000 then some (B.val (.tup (rep k.toNat xs))) else none) = _
  rw [if_pos ⟨h, h1, h2⟩]
theorem cmp_neNil {xs : List D} (h : okDs 63 xs = true) : cmpop .ne (.lst xs) (.lst []) = some (!xs.isEmpty) := by
  have e1 : okD 64 (.lst xs) = true := by rw [okD_lst]; exact h
  have e2 : okD 64 (.lst []) = true := by rw [okD_lst]; exact okDs_nil 63
  rw [cmp_ned, e1, e2, eqD_lst]
  cases xs with
  | nil => rfl
  | cons a xs => rw [eqDs_cn]; rfl
theorem cmp_eqNil {xs : List D} (h : okDs 63 xs = true) : cmpop .eq (.lst xs) (.lst []) = some xs.isEmpty := by
  have e1 : okD 64 (.lst xs) = true := by rw [okD_lst]; exact h
  have e2 : okD 64 (.lst []) = true := by rw [okD_lst]; exact okDs_nil 63
  rw [cmp_eqd, e1, e2, eqD_lst]
  cases xs with
  | nil => rfl
  | cons a xs => rw [eqDs_cn]; rfl
theorem okDs_pl {k : Nat} {xs : List D} (h : ∀ x ∈ xs, PlD k x) (hk : k ≤ 63) : okDs 63 xs = true := okDs_of fun x hx => (h x hx).ok 63 hk
theorem okDs_JL {α : Type} [Em α] (h : Em.dep α ≤ 63) (xs : List α) : okDs 63 (JL xs) = true := okDs_map h xs
theorem JL_empty {α : Type} [Em α] (xs : List α) : (JL xs).isEmpty = xs.isEmpty := by cases xs <;> rfl
theorem map_empty {α β : Type} (f : α → β) (xs : List α) : (xs.map f).isEmpty = xs.isEmpty := by cases xs <;> rfl
theorem put1_own {α : Type} [Em α] {k : Nat} {env : List (Option T)} {cu : Cup} {t : List α} {i : Nat} (v : α) (hs : (env[k]?).bind id = some (.own (JL t))) (e1 : (ev F b).p ⟨env, cu⟩ = .ok (.int i) ⟨env, cu⟩) (h1 : i < t.length) :
    put1 k (ev F b) (.val (em v)) ⟨env, cu⟩ = .ok () ⟨env.set k (some (.own (JL (t.set i v)))), cu⟩ := by
  have hp : place (JL t).length (i : Int) = some i := by unfold place; rw [if_pos (by omega), JL_len, if_pos (by omega), Int.toNat_natCast]
  unfold put1
  simp only [getS_mk, hs, e1, bind_ok, hp, setS_mk, val_d, JL_set]
theorem leafs_nil {s : St} : leafs s [] = true := rfl
end Ev

/-! rules for dicts, sorted pairs, enumerate -/
namespace Ev
open PySem
variable {F : Fn} {P : Par} {s : St} {a b c e : E} {es : List E} {i j : Nat}
@[simp] theorem dnew_b : (ev F .dnew).b s = .ok (.newd [] []) s := (rfl)
@[simp] theorem dnew1_b : (ev F (.dnew1 a b)).b s = ((ev F a).p s).bind fun x s => ((ev F b).b s).bind fun y s => (lift (key? x) s).bind fun n s => .ok (.newd [n] [y.d]) s := (rfl)
@[simp] theorem bt_newd {ks : List (List Int)} {vs : List D} : (B.newd ks vs).t = .dct ks vs := (rfl)
@[simp] theorem td_dct {ks : List (List Int)} {vs : List D} : (T.dct ks vs).d = .dct false ks vs := (rfl)
@[simp] theorem varP_dct {ks : List (List Int)} {vs : List D} : varP (some (.dct ks vs)) i s = .ok (.dct false ks vs) s := (rfl)
@[simp] theorem key_J {xs : List Int} : key? (.tup (JL xs)) = some xs := JL_ints xs
def dgetK (f : St → R D) (g : St → R B) (x : D) (s : St) : R B := match x with
  | .dct _ ks vs => (f s).bind fun y s => (g s).bind fun z s => (lift (key? y) s).bind fun n s => .ok (.val ((dAt n ks vs).getD z.d)) s
  | _ => .bad
@[simp] theorem dgetK_d {f : St → R D} {g : St → R B} {l : Bool} {ks : List (List Int)} {vs : List D} : dgetK f g (.dct l ks vs) s = (f s).bind fun y s => (g s).bind fun z s => (lift (key? y) s).bind fun n s => .ok (.val ((dAt n ks vs).getD z.d)) s := (rfl)
@[simp] theorem dget_b : (ev F (.dget a b c)).b s = ((ev F a).p s).bind (dgetK (ev F b).p (ev F c).b) := (rfl)
@[simp] theorem dget_p : (ev F (.dget a b c)).p s = ((ev F (.dget a b c)).b s).bind fun v s => .ok v.d s := (rfl)
@[simp] theorem ret_dget : retB F (.dget a b c) s = (ev F (.dget a b c)).b s := (rfl)
@[simp] theorem dix_b : (ev F (.dix a b)).b s = ((ev F a).p s).bind fun x s => ((ev F b).p s).bind fun y s => (lift ((dAtO x y).bind id) s).bind fun d s => .ok (.val d) s := (rfl)
@[simp] theorem dix_p : (ev F (.dix a b)).p s = ((ev F (.dix a b)).b s).bind fun v s => .ok v.d s := (rfl)
theorem dAtO_J {l : Bool} {ks : List (List Int)} {vs : List D} {xs : List Int} : dAtO (.dct l ks vs) (.tup (JL xs)) = some (dAt xs ks vs) := by
  show (match D.dct l ks vs, key? (.tup (JL xs)) with
  | .dct _ ks vs, some n => some (dAt n ks vs)
  | _, _ => none) = _
  rw [key_J]
def dput2 (i : Nat) (v : D) (y : D) (t : Option T) (s : St) : Out := match t, key? y with
      | some (.dct ks vs), some n => if ks.length < big then .nx (setS s i (.dct (dPut n v ks vs).1 (dPut n v ks vs).2)) else .bad
      | _, _ => .bad
def dput1 (i : Nat) (f : St → R D) (v : D) (t : Option T) (s : St) : Out := match t with
    | some (.dct _ _) => (f s).out fun y s => dput2 i v y (getS s i) s
    | _ => .bad
@[simp] theorem dput1_d {f : St → R D} {v : D} {ks : List (List Int)} {vs : List D} : dput1 i f v (some (.dct ks vs)) s = (f s).out fun y s => dput2 i v y (getS s i) s := (rfl)
theorem dput2_d {v : D} {xs : List Int} {ks : List (List Int)} {vs : List D} (h : ks.length < big) : dput2 i v (.tup (JL xs)) (some (.dct ks vs)) s = .nx (setS s i (.dct (dPut xs v ks vs).1 (dPut xs v ks vs).2)) := by
  unfold dput2
  rw [key_J]
  show (if ks.length < big then _ else _) = _
  rw [if_pos h]
@[simp] theorem exec_dput : exec P F (.dput i b a) s = ((ev F a).b s).out fun v s => dput1 i (ev F b).p v.d (getS s i) s := (rfl)
def lockO (i : Nat) (t : Option T) (s : St) : Out := match t with
    | some (.dct ks vs) => .nx (setS s i (.leaf (.dct true ks vs)))
    | some (.leaf (.dct true _ _)) => .nx s
    | _ => .bad
@[simp] theorem lockO_d {ks : List (List Int)} {vs : List D} : lockO i (some (.dct ks vs)) s = .nx (setS s i (.leaf (.dct true ks vs))) := (rfl)
@[simp] theorem lockO_l {ks : List (List Int)} {vs : List D} : lockO i (some (.leaf (.dct true ks vs))) s = .nx s := (rfl)
@[simp] theorem exec_lock : exec P F (.lock i) s = lockO i (getS s i) s := (rfl)
def moveO (i j : Nat) (t : Option T) (s : St) : Out := match t with
    | some (.dct ks vs) => if i < s.env.length ∧ i ≠ j then .nx { s with env := (s.env.set j none).set i (some (.dct ks vs)) } else .bad
    | _ => .bad
@[simp] theorem moveO_d {ks : List (List Int)} {vs : List D} : moveO i j (some (.dct ks vs)) s = if i < s.env.length ∧ i ≠ j then .nx { s with env := (s.env.set j none).set i (some (.dct ks vs)) } else .bad := (rfl)
@[simp] theorem exec_move : exec P F (.move i j) s = moveO i j (getS s j) s := (rfl)
def dkeysO (t : Option T) (s : St) : R (List D) := match t with
  | some (.leaf (.dct true ks _)) => .ok (ks.map keyD) s
  | _ => .bad
@[simp] theorem dkeysO_l {ks : List (List Int)} {vs : List D} : dkeysO (some (.leaf (.dct true ks vs))) s = .ok (ks.map keyD) s := (rfl)
@[simp] theorem dkeys_i {z : Bool} : (ev F (.dkeys i)).i z s = dkeysO (getS s i) s := (rfl)
def ditemsO (t : Option T) (s : St) : R (List D) := match t with
  | some (.leaf (.dct true ks vs)) => .ok (List.zipWith (fun k v => .tup [keyD k, v]) ks vs) s
  | _ => .bad
@[simp] theorem ditemsO_l {ks : List (List Int)} {vs : List D} : ditemsO (some (.leaf (.dct true ks vs))) s = .ok (List.zipWith (fun k v => .tup [keyD k, v]) ks vs) s := (rfl)
@[simp] theorem ditems_i {z : Bool} : (ev F (.ditems i)).i z s = ditemsO (getS s i) s := (rfl)
theorem keyD_J (k : List Int) : keyD k = .tup (JL k) := rfl
/-! sorted pairs, enumerate -/
theorem pairs_J : ∀ ps : List (Int × Int), pairs? (JL ps) = some ps
  | [] => rfl
  | p :: ps => by
    show (pairs? (JL ps)).map _ = _
    rw [pairs_J ps]; rfl
theorem bi_sortP (ps : List (Int × Int)) : biop .sorted [.lst (JL ps)] = some (.new (JL (sortP ps))) := by
  show sortD (.lst (JL ps)) = _
  unfold sortD
  have e1 : (items? (.lst (JL ps))).bind ints? = ints? (JL ps) := rfl
  rw [e1]
  cases ps with
  | nil => rfl
  | cons p ps =>
    have : ints? (JL (p :: ps)) = none := rfl
    rw [this]
    show (pairs? (JL (p :: ps))).map _ = _
    rw [pairs_J]; rfl
theorem bi_sortI (xs : List Int) : biop .sorted [.lst (JL xs)] = some (.new (JL (sortI xs))) := by
  show sortD (.lst (JL xs)) = _
  unfold sortD
  have e1 : (items? (.lst (JL xs))).bind ints? = ints? (JL xs) := rfl
  rw [e1, JL_ints]; rfl
theorem enumD_J {α : Type} [Em α] : ∀ (xs : List α) (n : Nat), enumD n (JL xs) = JL ((xs.zipIdx n).map fun p => ((p.2 : Int), p.1))
  | [], n => rfl
  | x :: xs, n => by
    show D.tup [.int n, em x] :: enumD (n + 1) (JL xs) = _
    rw [enumD_J xs (n + 1)]
    rfl
theorem enum_own {α : Type} [Em α] {l : List (Option T)} {k : Cup} {xs : List α} {z : Bool} (h : (l[i]?).bind id = some (.own (JL xs))) : (ev F (.enum (.var i))).i z ⟨l, k⟩ = .ok (enumD 0 (JL xs)) (if z then setS ⟨l, k⟩ i (.leaf (.lst (JL xs))) else ⟨l, k⟩) := by
  rw [enum_i]
  cases z
  · simp [sOne, h, lstItems?]
  · simp [sOne, h, lstItems?]
end Ev

/-! plain words for the programs' own -/
namespace Lw
open PySem Ev
def within (l h v : Int) : Bool := decide (l ≤ v) && decide (v ≤ h)
def fits (xs : List Int) : Bool := within 1 12 (xs.length : Int) && xs.all (within (-1000000) 1000000)
def fall (xs : List Int) : List Int := (sortI xs).reverse
theorem insertI_len (x : Int) : ∀ ys : List Int, (insertI x ys).length = ys.length + 1
  | [] => rfl
  | y :: ys => by unfold insertI; split <;> simp [insertI_len x ys]
theorem sortI_len : ∀ xs : List Int, (sortI xs).length = xs.length
  | [] => rfl
  | x :: xs => by unfold sortI; rw [insertI_len, sortI_len xs]; rfl
theorem fall_len (xs : List Int) : (fall xs).length = xs.length := by unfold fall; rw [List.length_reverse, sortI_len]
/-- sums from the front -/
def fronts (w : Int) : List Int → List Int
  | [] => []
  | x :: xs => (w + x) :: fronts (w + x) xs
theorem fronts_len : ∀ (w : Int) (xs : List Int), (fronts w xs).length = xs.length
  | _, [] => rfl
  | w, x :: xs => by simp [fronts, fronts_len]
theorem zip_two {α β : Type} [Em α] [Em β] : ∀ (fs : List α) (gs : List β), zipN [JL fs, JL gs] = (fs.zip gs).map fun p => em p
  | [], _ => by simp [zipN]
  | _ :: _, [] => by simp [zipN]
  | f :: fs, g :: gs => by
    have := zip_two fs gs
    simp only [JL_cons, List.zip_cons_cons, List.map_cons]
    rw [← this]
    rfl
def lastI (xs : List Int) : Int := xs.getLastD 0
def ev9 (fs gs : List Int) : Bool := decide (lastI fs = lastI gs) && (fs.zip gs).all fun p => decide (p.1 ≤ p.2)
theorem last_some (xs : List Int) (h : 1 ≤ xs.length) : xs.getLast? = some (lastI xs) := by
  cases xs with
  | nil => simp at h
  | cons x xs => simp [lastI, List.getLast?_cons]
/-- a row is as even as another -/
def evn (xs ys : List Int) : Bool := ev9 (fronts 0 (fall xs)) (fronts 0 (fall ys))
def fitc (xs : List Int) : Bool := within 1 12 (xs.length : Int) && xs.all (within 0 12)
/-- a mark table with rows of w -/
def GT (w : Nat) (t : List (List Int)) : Prop := (1 ≤ t.length ∧ t.length ≤ 12) ∧ (1 ≤ w ∧ w ≤ 12) ∧ ∀ r ∈ t, r.length = w ∧ ∀ x ∈ r, x = 0 ∨ x = 1
theorem within_ok {l h v : Int} (h1 : l ≤ v) (h2 : v ≤ h) : within l h v = true := by unfold within; rw [decide_eq_true h1, decide_eq_true h2]; rfl
theorem GT.row0 {w : Nat} {t : List (List Int)} (h : GT w t) : ∃ r t', t = r :: t' ∧ r.length = w := by
  cases t with
  | nil => exact absurd h.1.1 (by simp)
  | cons r t' => exact ⟨r, t', rfl, (h.2.2 r List.mem_cons_self).1⟩
/-- column sums of w columns -/
def cols (w : Nat) (t : List (List Int)) : List Int := (List.range w).map fun j => (t.map fun r => itAt r j).sum
theorem row_range (r : List Int) : r = (List.range r.length).map (fun j => itAt r j) := by
  apply List.ext_getElem
  · simp
  · intro i h1 h2; simp [itAt, h1]
theorem JL_range (r : List Int) : JL r = (List.range r.length).map (fun j => D.int (itAt r j)) := by
  conv => lhs; rw [row_range r]
  unfold JL; rw [List.map_map]; rfl
theorem zipN_tab {w : Nat} : ∀ (t : List (List Int)), t ≠ [] → (∀ r ∈ t, r.length = w) → zipN (t.map JL) = (List.range w).map (fun j => em (t.map fun r => itAt r j))
  | [], h, _ => absurd rfl h
  | [r], _, h => by
    have hr := h r (by simp)
    subst hr
    show (JL r).map (fun x => D.tup [x]) = _
    rw [JL_range, List.map_map]
    rfl
  | r :: r2 :: t, _, h => by
    have ih := zipN_tab (w := w) (r2 :: t) (by simp) (fun r hr => h r (List.mem_cons_of_mem _ hr))
    have hr := h r (by simp)
    show List.zipWith _ (JL r) (zipN ((r2 :: t).map JL)) = _
    rw [ih]
    subst hr
    rw [JL_range, List.zipWith_map, List.zipWith_self]
    rfl
theorem allItems_rows : ∀ t : List (List Int), allItems? (JL t) = some (t.map JL)
  | [] => rfl
  | r :: t => by
    show (allItems? (JL t)).map _ = _
    rw [allItems_rows t]; rfl
theorem GT.big {w : Nat} {t : List (List Int)} (h : GT w t) : t.length ≤ Ev.big := by have := h.1.2; unfold Ev.big; omega
theorem GT.ne {w : Nat} {t : List (List Int)} (h : GT w t) : t ≠ [] := by intro e; have := h.1.1; rw [e] at this; simp at this
/-- counts turned over -/
def over (xs : List Int) (w : Nat) : List Int := (List.range w).map fun (j : Nat) => ((xs.filter fun x => decide ((j : Int) < x)).length : Int)
/-- an item of a table -/
def at2 (t : List (List Int)) (r a : Nat) : Int := itAt (rowAt t r) a
/-- marks exchanged -/
def exch (t : List (List Int)) (r s a b : Nat) : List (List Int) := setP (setP (setP (setP t r a 0) r b 1) s a 1) s b 0
def swappable (t : List (List Int)) (r s a b : Nat) : Prop := at2 t r a = 1 ∧ at2 t r b = 0 ∧ at2 t s a = 0 ∧ at2 t s b = 1
instance (t : List (List Int)) (r s a b : Nat) : Decidable (swappable t r s a b) := inferInstanceAs (Decidable (_ ∧ _))
theorem get_row {t : List (List Int)} {r : Nat} (h : r < t.length) : t[r]? = some (rowAt t r) := by
  rw [rowAt, List.getD_eq_getElem?_getD, List.getElem?_eq_getElem h]; rfl
theorem get_it {t : List Int} {r : Nat} (h : r < t.length) : t[r]? = some (itAt t r) := by
  rw [itAt, List.getD_eq_getElem?_getD, List.getElem?_eq_getElem h]; rfl
theorem GT.rowlen {w : Nat} {t : List (List Int)} (h : GT w t) {r : Nat} (hr : r < t.length) : (rowAt t r).length = w := by
  have := get_row hr
  exact (h.2.2 _ (List.mem_of_getElem? this)).1
theorem at_tab {w : Nat} {t : List (List Int)} (h : GT w t) {r : Nat} (hr : r < t.length) : at? (JL t) (r : Int) = some (.tup (JL (rowAt t r))) := at_JL t _ (get_row hr)
theorem at_tab2 {w : Nat} {t : List (List Int)} (h : GT w t) {r a : Nat} (hr : r < t.length) (ha : a < w) : at? (JL (rowAt t r)) (a : Int) = some (.int (at2 t r a)) := at_JL _ _ (get_it (by rw [h.rowlen hr]; exact ha))
theorem swap_ne (t : List (List Int)) (r s a b : Nat) : cmpop .ne (.tup [.int (at2 t r a), .int (at2 t r b), .int (at2 t s a), .int (at2 t s b)]) (.tup [.int 1, .int 0, .int 0, .int 1]) = some (!decide (swappable t r s a b)) := by
  have := cmp_neE (α := List Int) (by show 1 ≤ 64; omega) [at2 t r a, at2 t r b, at2 t s a, at2 t s b] [1, 0, 0, 1]
  have e : ([at2 t r a, at2 t r b, at2 t s a, at2 t s b] = [1, 0, 0, 1]) = swappable t r s a b := by simp [swappable]
  simp only [e] at this
  exact this
theorem swap_eq (t : List (List Int)) (r s a b : Nat) : cmpop .eq (.tup [.int (at2 t r a), .int (at2 t r b), .int (at2 t s a), .int (at2 t s b)]) (.tup [.int 1, .int 0, .int 0, .int 1]) = some (decide (swappable t r s a b)) := by
  have := cmp_eqE (α := List Int) (by show 1 ≤ 64; omega) [at2 t r a, at2 t r b, at2 t s a, at2 t s b] [1, 0, 0, 1]
  have e : ([at2 t r a, at2 t r b, at2 t s a, at2 t s b] = [1, 0, 0, 1]) = swappable t r s a b := by simp [swappable]
  simp only [e] at this
  exact this
theorem len_filter (p : Int → Bool) : ∀ xs : List Int, ((xs.filter p).length : Int) = (xs.map fun x => if p x then (1 : Int) else 0).sum
  | [] => rfl
  | x :: xs => by
    have := len_filter p xs
    cases q : p x <;> simp [List.filter_cons, q, ← this] <;> omega
end Lw

/-! sorted rows, front sums, evenness -/
namespace Lw
open PySem Ev
theorem insertI_perm (x : Int) : ∀ ys : List Int, (insertI x ys).Perm (x :: ys)
  | [] => .refl _
  | y :: ys => by
    unfold insertI; split
    · exact .refl _
    · exact ((insertI_perm x ys).cons y).trans (.swap x y ys)
theorem sortI_perm : ∀ xs : List Int, (sortI xs).Perm xs
  | [] => .refl _
  | x :: xs => (insertI_perm x (sortI xs)).trans ((sortI_perm xs).cons x)
theorem insertI_sorted (x : Int) : ∀ ys : List Int, ys.Pairwise (· ≤ ·) → (insertI x ys).Pairwise (· ≤ ·)
  | [], _ => by simp [insertI]
  | y :: ys, h => by
    unfold insertI
    rw [List.pairwise_cons] at h
    split
    · rename_i hxy
      refine List.pairwise_cons.2 ⟨fun z hz => ?_, List.pairwise_cons.2 h⟩
      rcases List.mem_cons.1 hz with rfl | hz
      · exact hxy
      · exact Int.le_trans hxy (h.1 z hz)
    · rename_i hxy
      refine List.pairwise_cons.2 ⟨fun z hz => ?_, insertI_sorted x ys h.2⟩
      rcases List.mem_cons.1 ((insertI_perm x ys).mem_iff.1 hz) with rfl | hz
      · omega
      · exact h.1 z hz
theorem sortI_sorted : ∀ xs : List Int, (sortI xs).Pairwise (· ≤ ·)
  | [] => .nil
  | x :: xs => insertI_sorted x _ (sortI_sorted xs)
theorem fall_perm (xs : List Int) : (fall xs).Perm xs := (List.reverse_perm _).trans (sortI_perm xs)
theorem fall_sorted (xs : List Int) : (fall xs).Pairwise (· ≥ ·) := by
  unfold fall; rw [List.pairwise_reverse]; exact sortI_sorted xs
theorem fall_uniq {f g : List Int} (h : f.Perm g) (hf : f.Pairwise (· ≥ ·)) (hg : g.Pairwise (· ≥ ·)) : f = g :=
  h.eq_of_pairwise (fun a b _ _ h1 h2 => by omega) hf hg
theorem fall_of {f : List Int} (hf : f.Pairwise (· ≥ ·)) : fall f = f := fall_uniq (fall_perm f) (fall_sorted f) hf
theorem fall_congr {f g : List Int} (h : f.Perm g) : fall f = fall g := fall_uniq ((fall_perm f).trans (h.trans (fall_perm g).symm)) (fall_sorted f) (fall_sorted g)
theorem perm_sum {f g : List Int} (h : f.Perm g) : f.sum = g.sum := by
  induction h with
  | nil => rfl
  | cons x _ ih => simp [ih]
  | swap x y l => simp; omega
  | trans _ _ a b => exact a.trans b
theorem fall_sum (xs : List Int) : (fall xs).sum = xs.sum := perm_sum (fall_perm xs)
/-- the sum of the greatest k -/
def top (k : Nat) (xs : List Int) : Int := ((fall xs).take k).sum
theorem fronts_get : ∀ (w : Int) (xs : List Int) (i : Nat), i < xs.length → (fronts w xs)[i]? = some (w + (xs.take (i + 1)).sum)
  | _, [], _, h => absurd h (by simp)
  | w, x :: xs, 0, _ => by simp [fronts]
  | w, x :: xs, i + 1, h => by
    have := fronts_get (w + x) xs i (by simpa using h)
    simp [fronts, this]; omega
theorem fronts_last (xs : List Int) (h : 1 ≤ xs.length) : lastI (fronts 0 xs) = xs.sum := by
  have h1 := last_some (fronts 0 xs) (by rw [fronts_len]; exact h)
  rw [List.getLast?_eq_getElem?, fronts_len, fronts_get 0 xs (xs.length - 1) (by omega)] at h1
  rw [show xs.length - 1 + 1 = xs.length by omega, List.take_length] at h1
  injection h1 with h1; omega
theorem evn_iff {xs ys : List Int} (h : xs.length = ys.length) (h1 : 1 ≤ xs.length) : evn xs ys = true ↔ xs.sum = ys.sum ∧ ∀ k, 1 ≤ k → k ≤ xs.length → top k xs ≤ top k ys := by
  unfold evn ev9
  rw [Bool.and_eq_true, decide_eq_true_iff, fronts_last _ (by rw [fall_len]; exact h1), fronts_last _ (by rw [fall_len]; omega), fall_sum, fall_sum, List.all_eq_true]
  refine and_congr_right fun _ => ⟨fun hh k k1 k2 => ?_, fun hh p hp => ?_⟩
  · have e1 := fronts_get 0 (fall xs) (k - 1) (by rw [fall_len]; omega)
    have e2 := fronts_get 0 (fall ys) (k - 1) (by rw [fall_len]; omega)
    rw [show k - 1 + 1 = k by omega] at e1 e2
    have e3 : ((fronts 0 (fall xs)).zip (fronts 0 (fall ys)))[k - 1]? = some (0 + ((fall xs).take k).sum, 0 + ((fall ys).take k).sum) := by
      rw [List.getElem?_zip_eq_some]; exact ⟨e1, e2⟩
    have := of_decide_eq_true (hh _ (List.mem_of_getElem? e3))
    unfold top
    simpa using this
  · obtain ⟨i, hi⟩ := List.mem_iff_getElem?.1 hp
    rw [List.getElem?_zip_eq_some] at hi
    obtain ⟨a, b⟩ := hi
    have hl : i < xs.length := by
      rcases Nat.lt_or_ge i xs.length with h | h
      · exact h
      · rw [List.getElem?_eq_none (by rw [fronts_len, fall_len]; exact h)] at a; cases a
    rw [fronts_get _ _ _ (by rw [fall_len]; exact hl)] at a
    rw [fronts_get _ _ _ (by rw [fall_len]; omega)] at b
    injection a with a; injection b with b
    have := hh (i + 1) (by omega) (by omega)
    unfold top at this
    rw [decide_eq_true_iff, ← a, ← b]; omega
/-! sums -/
theorem sum_map_add {α : Type} (f g : α → Int) : ∀ l : List α, (l.map fun x => f x + g x).sum = (l.map f).sum + (l.map g).sum
  | [] => rfl
  | x :: l => by simp [sum_map_add f g l]; omega
theorem sum_map_zero {α : Type} : ∀ l : List α, (l.map fun _ => (0 : Int)).sum = 0
  | [] => rfl
  | x :: l => by simp [sum_map_zero l]
theorem sum_map_mul {α : Type} (k : Int) (f : α → Int) : ∀ l : List α, (l.map fun x => k * f x).sum = k * (l.map f).sum
  | [] => by simp
  | x :: l => by simp [sum_map_mul k f l, Int.mul_add]
theorem sum_swap {α β : Type} (g : α → β → Int) (m : List β) : ∀ l : List α, (l.map fun x => (m.map fun y => g x y).sum).sum = (m.map fun y => (l.map fun x => g x y).sum).sum
  | [] => by simp [sum_map_zero]
  | x :: l => by
    simp only [List.map_cons, List.sum_cons]
    rw [sum_swap g m l, ← sum_map_add]
theorem sum_map_le {α : Type} {f g : α → Int} : ∀ {l : List α}, (∀ x ∈ l, f x ≤ g x) → (l.map f).sum ≤ (l.map g).sum
  | [], _ => by simp
  | x :: l, h => by
    have h1 := h x List.mem_cons_self
    have h2 := sum_map_le (l := l) fun y hy => h y (List.mem_cons_of_mem _ hy)
    simp; omega
theorem perm_map_inv {α β : Type} (f : α → β) : ∀ {l m : List β}, l.Perm m → ∀ xs : List α, m = xs.map f → ∃ ys : List α, ys.Perm xs ∧ l = ys.map f := by
  intro l m h
  induction h with
  | nil => intro xs hx; exact ⟨xs, .refl _, hx⟩
  | cons x _ ih =>
    intro xs hx
    cases xs with
    | nil => cases hx
    | cons y ys =>
      simp at hx
      obtain ⟨zs, h1, h2⟩ := ih ys hx.2
      exact ⟨y :: zs, h1.cons y, by simp [hx.1, h2]⟩
  | swap x y l =>
    intro xs hx
    match xs, hx with
    | a :: b :: xs, hx =>
      simp at hx
      exact ⟨b :: a :: xs, .swap a b xs, by simp [hx.1, hx.2.1, hx.2.2]⟩
  | trans _ _ a b =>
    intro xs hx
    obtain ⟨ys, h1, h2⟩ := b xs hx
    obtain ⟨zs, h3, h4⟩ := a ys h2
    exact ⟨zs, h3.trans h1, h4⟩
theorem sum_nonneg : ∀ {l : List Int}, (∀ x ∈ l, 0 ≤ x) → 0 ≤ l.sum
  | [], _ => by simp
  | x :: l, h => by
    have h1 := h x List.mem_cons_self
    have h2 := sum_nonneg (l := l) fun y hy => h y (List.mem_cons_of_mem _ hy)
    simp; omega
theorem sum_take_le {k : Nat} {l : List Int} (h : ∀ x ∈ l, 0 ≤ x) : (l.take k).sum ≤ l.sum := by
  conv => rhs; rw [← List.take_append_drop k l]
  rw [List.sum_append]
  have := sum_nonneg (l := l.drop k) fun x hx => h x (List.mem_of_mem_drop hx)
  omega
theorem sum_le_len : ∀ {l : List Int}, (∀ x ∈ l, x ≤ 1) → l.sum ≤ l.length
  | [], _ => by simp
  | x :: l, h => by
    have h1 := h x List.mem_cons_self
    have h2 := sum_le_len (l := l) fun y hy => h y (List.mem_cons_of_mem _ hy)
    simp; omega
end Lw

/-! counts of marks -/
namespace Lw
open PySem Ev
theorem itAt_map {α : Type} (f : α → Int) (l : List α) (i : Nat) (x : α) (h : l[i]? = some x) : itAt (l.map f) i = f x := by
  unfold itAt; rw [List.getD_eq_getElem?_getD, List.getElem?_map, h]; rfl
theorem sum_row (r : List Int) : r.sum = ((List.range r.length).map fun j => itAt r j).sum := by
  conv => lhs; rw [row_range r]
theorem cnt_min (k : Nat) (x : Int) (h : 0 ≤ x) : ((List.range k).map fun (j : Nat) => if decide ((j : Int) < x) then (1 : Int) else 0).sum = min x k := by
  induction k with
  | zero => simp; omega
  | succ k ih =>
    rw [List.range_succ, List.map_append, List.sum_append, ih]
    simp
    split <;> omega
theorem over_take (xs : List Int) {k w : Nat} (h : k ≤ w) : (over xs w).take k = over xs k := by
  unfold over
  rw [← List.map_take, List.take_range, Nat.min_eq_left h]
theorem over_sum (xs : List Int) (h : ∀ x ∈ xs, 0 ≤ x) (k : Nat) : (over xs k).sum = (xs.map fun x => min x (k : Int)).sum := by
  unfold over
  simp only [len_filter]
  rw [sum_swap (fun (j : Nat) (x : Int) => if decide ((j : Int) < x) then (1 : Int) else 0)]
  congr 1
  apply List.map_congr_left
  intro x hx
  exact cnt_min k x (h x hx)
theorem over_len (xs : List Int) (w : Nat) : (over xs w).length = w := by simp [over]
theorem over_falling (xs : List Int) (w : Nat) : (over xs w).Pairwise (· ≥ ·) := by
  unfold over
  rw [List.pairwise_map]
  refine List.pairwise_lt_range.imp fun {a b} hab => ?_
  have : (xs.filter fun x => decide ((b : Int) < x)).length ≤ (xs.filter fun x => decide ((a : Int) < x)).length := by
    rw [← List.countP_eq_length_filter, ← List.countP_eq_length_filter]
    refine List.countP_mono_left fun x _ hx => ?_
    rw [decide_eq_true_iff] at hx ⊢; omega
  omega
theorem over_bound (xs : List Int) (w : Nat) : ∀ y ∈ over xs w, 0 ≤ y ∧ y ≤ xs.length := by
  intro y hy
  unfold over at hy
  obtain ⟨j, _, rfl⟩ := List.mem_map.1 hy
  have := List.length_filter_le (fun x => decide ((j : Int) < x)) xs
  exact ⟨by omega, by omega⟩
theorem top_over (xs : List Int) {k w : Nat} (hx : ∀ x ∈ xs, 0 ≤ x) (h : k ≤ w) : top k (over xs w) = (xs.map fun x => min x (k : Int)).sum := by
  unfold top
  rw [fall_of (over_falling xs w), over_take xs h, over_sum xs hx]
theorem cols_len (w : Nat) (t : List (List Int)) : (cols w t).length = w := by simp [cols]
theorem cols_sum {w : Nat} {t : List (List Int)} (h : GT w t) : (cols w t).sum = (t.map List.sum).sum := by
  unfold cols
  rw [sum_swap (fun j r => itAt r j)]
  congr 1
  apply List.map_congr_left
  intro r hr
  rw [sum_row r, (h.2.2 r hr).1]
theorem GT.it {w : Nat} {t : List (List Int)} (h : GT w t) {r : List Int} (hr : r ∈ t) (j : Nat) : itAt r j = 0 ∨ itAt r j = 1 := by
  unfold itAt
  rw [List.getD_eq_getElem?_getD]
  cases e : r[j]? with
  | none => exact .inl rfl
  | some x => exact (h.2.2 r hr).2 x (List.mem_of_getElem? e)
theorem GT.sum0 {w : Nat} {t : List (List Int)} (h : GT w t) {r : List Int} (hr : r ∈ t) : 0 ≤ r.sum ∧ r.sum ≤ w := by
  have h1 := h.2.2 r hr
  refine ⟨sum_nonneg fun x hx => ?_, ?_⟩
  · rcases h1.2 x hx with rfl | rfl <;> omega
  · have := sum_le_len (l := r) fun x hx => by rcases h1.2 x hx with rfl | rfl <;> omega
    omega
theorem top_cols {w : Nat} {t : List (List Int)} (h : GT w t) {k : Nat} : top k (cols w t) ≤ ((t.map List.sum).map fun x => min x (k : Int)).sum := by
  unfold top
  obtain ⟨p, hp, e⟩ := perm_map_inv _ (fall_perm (cols w t)) (List.range w) rfl
  rw [e, ← List.map_take, sum_swap (fun j r => itAt r j), List.map_map]
  refine sum_map_le fun r hr => ?_
  show _ ≤ min r.sum (k : Int)
  have n0 : ∀ x ∈ p.map (fun j => itAt r j), 0 ≤ x ∧ x ≤ 1 := by
    intro x hx
    obtain ⟨j, _, rfl⟩ := List.mem_map.1 hx
    rcases h.it hr j with e | e <;> omega
  have a1 : ((p.take k).map fun j => itAt r j).sum ≤ k := by
    have := sum_le_len (l := (p.take k).map fun j => itAt r j) fun x hx => (n0 x (by rw [List.map_take] at hx; exact List.mem_of_mem_take hx)).2
    have l : (p.take k).length ≤ k := by rw [List.length_take]; exact Nat.min_le_left _ _
    rw [List.length_map] at this; omega
  have a2 : ((p.take k).map fun j => itAt r j).sum ≤ r.sum := by
    rw [List.map_take]
    refine Int.le_trans (sum_take_le fun x hx => (n0 x hx).1) ?_
    rw [perm_sum (hp.map fun j => itAt r j), sum_row r, (h.2.2 r hr).1]
    exact Int.le_refl _
  exact Int.le_min.2 ⟨a2, a1⟩
theorem gale {w : Nat} {t : List (List Int)} (h : GT w t) : evn (cols w t) (over (t.map List.sum) w) = true := by
  have h0 : ∀ x ∈ t.map List.sum, 0 ≤ x ∧ x ≤ w := by
    intro x hx
    obtain ⟨r, hr, rfl⟩ := List.mem_map.1 hx
    exact h.sum0 hr
  rw [evn_iff (by rw [cols_len, over_len]) (by rw [cols_len]; exact h.2.1.1)]
  refine ⟨?_, fun k _ hk => ?_⟩
  · rw [cols_sum h, over_sum _ fun x hx => (h0 x hx).1]
    congr 1
    conv => lhs; rw [← List.map_id (t.map List.sum)]
    apply List.map_congr_left
    intro x hx
    have := (h0 x hx).2
    show x = min x (w : Int)
    omega
  · rw [top_over _ (fun x hx => (h0 x hx).1) (by rw [cols_len] at hk; exact hk)]
    exact top_cols h
/-- turned -/
def turnT (w : Nat) (t : List (List Int)) : List (List Int) := (List.range w).map fun j => t.map fun r => itAt r j
theorem turn_GT {w : Nat} {t : List (List Int)} (h : GT w t) : GT t.length (turnT w t) := by
  refine ⟨by simpa [turnT] using h.2.1, h.1, fun r hr => ?_⟩
  obtain ⟨j, _, rfl⟩ := List.mem_map.1 hr
  refine ⟨by simp, fun x hx => ?_⟩
  obtain ⟨r, hr, rfl⟩ := List.mem_map.1 hx
  exact h.it hr j
theorem turn_sums {w : Nat} {t : List (List Int)} : (turnT w t).map List.sum = cols w t := by
  unfold turnT cols; rw [List.map_map]; rfl
theorem turn_cols {w : Nat} {t : List (List Int)} (h : GT w t) : cols t.length (turnT w t) = t.map List.sum := by
  apply List.ext_getElem?
  intro i
  unfold cols turnT
  rw [List.getElem?_map, List.getElem?_map]
  rcases Nat.lt_or_ge i t.length with hi | hi
  · rw [List.getElem?_range hi, get_row hi]
    simp only [Option.map_some]
    congr 1
    rw [List.map_map, sum_row (rowAt t i), h.rowlen hi]
    congr 1
    apply List.map_congr_left
    intro j hj
    exact itAt_map (fun r => itAt r j) t i _ (get_row hi)
  · rw [List.getElem?_eq_none (by simpa using hi), List.getElem?_eq_none hi]; rfl
theorem gale2 {w : Nat} {t : List (List Int)} (h : GT w t) : evn (t.map List.sum) (over (cols w t) t.length) = true := by
  have := gale (turn_GT h)
  rwa [turn_sums, turn_cols h] at this
/-! counts turned over twice -/
theorem cnt_fall (j : Int) : ∀ (f : List Int), f.Pairwise (· ≥ ·) → ∀ i : Nat, i < f.length → (i < (f.filter fun x => decide (j < x)).length ↔ j < itAt f i)
  | [], _, i, h => absurd h (by simp)
  | x :: f, hf, i, h => by
    rw [List.pairwise_cons] at hf
    by_cases q : j < x
    · rw [List.filter_cons, if_pos (by simpa using q)]
      cases i with
      | zero => simp [itAt, q]
      | succ i =>
        have := cnt_fall j f hf.2 i (by simpa using h)
        simp only [List.length_cons]
        have e : itAt (x :: f) (i + 1) = itAt f i := by simp [itAt]
        rw [e, ← this]; omega
    · rw [List.filter_cons, if_neg (by simpa using q)]
      have hn : (f.filter fun x => decide (j < x)) = [] := by
        rw [List.filter_eq_nil_iff]
        intro y hy
        have := hf.1 y hy
        simp; omega
      rw [hn]
      have hb : itAt (x :: f) i ≤ x := by
        cases i with
        | zero => simp [itAt]
        | succ i =>
          have e : itAt (x :: f) (i + 1) = itAt f i := by simp [itAt]
          have hi : i < f.length := by simpa using h
          have := hf.1 _ (List.mem_of_getElem? (get_it hi))
          rw [e]; omega
      simp; omega
theorem cnt_range (m : Int) (h0 : 0 ≤ m) : ∀ k : Nat, m ≤ k → ((List.range k).filter fun (j : Nat) => decide ((j : Int) < m)).length = m.toNat
  | 0, h => by
    have : m = 0 := by omega
    subst this; rfl
  | k + 1, h => by
    rw [List.range_succ, List.filter_append, List.length_append]
    by_cases q : m ≤ k
    · rw [cnt_range m h0 k q]
      have : decide ((k : Int) < m) = false := decide_eq_false (by omega)
      rw [List.filter_cons, this]; simp
    · have e : m = (k + 1 : Nat) := by omega
      subst e
      have e2 : (List.range k).filter (fun (j : Nat) => decide ((j : Int) < ((k + 1 : Nat) : Int))) = List.range k := by
        rw [List.filter_eq_self]
        intro j hj
        have := List.mem_range.1 hj
        rw [decide_eq_true_iff]; omega
      have e3 : decide ((k : Int) < ((k + 1 : Nat) : Int)) = true := decide_eq_true (by omega)
      rw [e2, List.filter_cons, e3, List.length_range, Int.toNat_natCast]
      rfl
theorem over_over (xs : List Int) (h : ∀ x ∈ xs, 0 ≤ x ∧ x ≤ 12) : over (over xs 12) xs.length = fall xs := by
  have hl : (fall xs).length = xs.length := fall_len xs
  apply List.ext_getElem?
  intro i
  rcases Nat.lt_or_ge i xs.length with hi | hi
  · have e0 := get_it (t := fall xs) (r := i) (by rw [hl]; exact hi)
    rw [e0]
    unfold over
    rw [List.getElem?_map, List.getElem?_range hi]
    simp only [Option.map_some]
    congr 1
    have hm : itAt (fall xs) i ∈ xs := (fall_perm xs).mem_iff.1 (List.mem_of_getElem? (get_it (by rw [hl]; exact hi)))
    have hb := h _ hm
    rw [List.filter_map, List.length_map]
    have e : ((fun (x : Int) => decide ((i : Int) < x)) ∘ fun (j : Nat) => ((xs.filter fun x => decide ((j : Int) < x)).length : Int)) = fun (j : Nat) => decide ((j : Int) < itAt (fall xs) i) := by
      funext j
      have c := cnt_fall j (fall xs) (fall_sorted xs) i (by rw [hl]; exact hi)
      have l : (xs.filter fun x => decide ((j : Int) < x)).length = ((fall xs).filter fun x => decide ((j : Int) < x)).length := ((fall_perm xs).symm.filter _).length_eq
      show decide ((i : Int) < ((xs.filter fun x => decide ((j : Int) < x)).length : Int)) = _
      rw [l, decide_eq_decide, ← c]; omega
    rw [e, cnt_range _ hb.1 12 hb.2]
    omega
  · rw [List.getElem?_eq_none (by rw [over_len]; exact hi), List.getElem?_eq_none (by rw [hl]; exact hi)]
end Lw

/-! counts that can be marked: by sublists, by tops, by the greedy table -/
namespace Lw
open PySem Ev
/-- what rows can give to k columns -/
def mins (k : Int) (r : List Int) : Int := (r.map fun x => min x k).sum
@[simp] theorem mins_nil (k : Int) : mins k [] = 0 := rfl
@[simp] theorem mins_cons (k x : Int) (r : List Int) : mins k (x :: r) = min x k + mins k r := by simp [mins]
theorem mins_perm {k : Int} {r s : List Int} (h : r.Perm s) : mins k r = mins k s := perm_sum (h.map _)
/-- no k columns ask for more than the rows have -/
def Pm (R C : List Int) : Prop := R.sum = C.sum ∧ ∀ S : List Int, S.Sublist C → S.sum ≤ mins (S.length : Int) R
theorem sub_min (k : Int) {S R : List Int} (h : S.Sublist R) : mins k R + S.sum ≤ R.sum + k * (S.length : Int) := by
  induction h with
  | slnil => simp
  | cons x _ ih => simp; omega
  | cons_cons x _ ih =>
    simp only [mins_cons, List.sum_cons, List.length_cons]
    rw [Int.natCast_add, Int.mul_add]; simp; omega
theorem mins_hinge (t : Int) : ∀ C : List Int, mins t C = C.sum - ((C.filter fun x => decide (t < x)).sum - t * ((C.filter fun x => decide (t < x)).length : Int))
  | [] => by simp
  | x :: C => by
    have ih := mins_hinge t C
    by_cases h : t < x
    · rw [List.filter_cons_of_pos (by simpa using h)]
      simp only [mins_cons, List.sum_cons, List.length_cons]
      have : t * (((C.filter fun x => decide (t < x)).length + 1 : Nat) : Int) = t * ((C.filter fun x => decide (t < x)).length : Int) + t := by rw [Int.natCast_add, Int.mul_add]; simp
      rw [this]; omega
    · rw [List.filter_cons_of_neg (by simpa using h)]
      simp only [mins_cons, List.sum_cons]
      omega
theorem Pm.symm {R C : List Int} (h : Pm R C) : Pm C R := by
  refine ⟨h.1.symm, fun S hS => ?_⟩
  have h1 := h.2 _ (List.filter_sublist (p := fun x => decide ((S.length : Int) < x)) (l := C))
  have h2 := sub_min ((C.filter fun x => decide ((S.length : Int) < x)).length : Int) hS
  rw [mins_hinge, ← h.1]
  rw [Int.mul_comm] at h2
  omega
theorem Pm.comm {R C : List Int} : Pm R C ↔ Pm C R := ⟨Pm.symm, Pm.symm⟩
theorem sub_take {S l : List Int} (h : S.Sublist l) (hl : l.Pairwise (· ≥ ·)) : S.sum ≤ (l.take S.length).sum := by
  induction h with
  | slnil => simp
  | @cons S l x hs ih =>
    have h2 := List.pairwise_cons.1 hl
    refine Int.le_trans (ih h2.2) ?_
    cases q : S.length with
    | zero => simp
    | succ k =>
      have hk : k < l.length := by have := hs.length_le; omega
      rw [List.take_succ_cons, List.sum_cons, List.take_succ, List.sum_append, List.getElem?_eq_getElem hk]
      have := h2.1 _ (List.getElem_mem hk)
      simp; omega
  | cons_cons x _ ih =>
    have h2 := List.pairwise_cons.1 hl
    have := ih h2.2
    simp only [List.length_cons, List.take_succ_cons, List.sum_cons]
    omega
theorem sub_top {S C : List Int} (h : S.Sublist C) : S.sum ≤ top S.length C := by
  obtain ⟨S', hp, hs⟩ := List.exists_perm_sublist h (fall_perm C).symm
  have := sub_take hs (fall_sorted C)
  rw [hp.length_eq, perm_sum hp] at this
  exact this
theorem top_sub (C : List Int) {k : Nat} (hk : k ≤ C.length) : ∃ S : List Int, S.Sublist C ∧ S.length = k ∧ S.sum = top k C := by
  obtain ⟨S', hp, hs⟩ := List.exists_perm_sublist (List.take_sublist k (fall C)) (fall_perm C)
  refine ⟨S', hs, ?_, perm_sum hp⟩
  rw [hp.length_eq, List.length_take, fall_len]; omega
theorem pm_iff {R C : List Int} : Pm R C ↔ R.sum = C.sum ∧ ∀ k : Nat, k ≤ C.length → top k C ≤ mins k R := by
  refine and_congr_right fun _ => ⟨fun h k hk => ?_, fun h S hS => ?_⟩
  · obtain ⟨S, h1, h2, h3⟩ := top_sub C hk
    have := h S h1
    rw [h2, h3] at this; exact this
  · exact Int.le_trans (sub_top hS) (h _ hS.length_le)
theorem mins_zero {R : List Int} (h : ∀ x ∈ R, 0 ≤ x) : mins 0 R = 0 := by
  refine Eq.trans (congrArg List.sum (List.map_congr_left fun x hx => ?_)) (sum_map_zero R)
  have := h x hx
  omega
/-- with k from 1 on -/
theorem pm_iff1 {R C : List Int} (h0 : ∀ x ∈ R, 0 ≤ x) : Pm R C ↔ R.sum = C.sum ∧ ∀ k : Nat, 1 ≤ k → k ≤ C.length → top k C ≤ mins k R := by
  rw [pm_iff]
  refine and_congr_right fun _ => ⟨fun h k _ hk => h k hk, fun h k hk => ?_⟩
  rcases Nat.eq_zero_or_pos k with rfl | h1
  · show ((fall C).take 0).sum ≤ mins 0 R
    rw [mins_zero h0]; simp
  · exact h k h1 hk
theorem Pm.tab {w : Nat} {t : List (List Int)} (h : GT w t) : Pm (t.map List.sum) (cols w t) := by
  rw [pm_iff]
  refine ⟨(cols_sum h).symm, fun k hk => top_cols h⟩
/-- no row asks for more than all columns -/
theorem Pm.row_le {R C : List Int} (h : Pm R C) : ∀ x ∈ R, x ≤ C.length := by
  intro x hx
  have h1 := h.symm.2 [x] (List.singleton_sublist.2 hx)
  have h2 : ∀ l : List Int, mins 1 l ≤ l.length := fun l => by
    have := sum_le_len (l := l.map fun x => min x 1) fun y hy => by
      obtain ⟨z, _, rfl⟩ := List.mem_map.1 hy; omega
    rwa [List.length_map] at this
  have h3 := h2 C
  simp at h1
  omega
/-! one row taken greedily: pairs of what a column lacks, and its mark -/
theorem mins_pairs {L : List (Int × Int)} {t : Int} (hm : ∀ p ∈ L, p.2 = 0 ∨ p.2 = 1) (hg : ∀ p ∈ L, ∀ q ∈ L, p.2 = 1 → q.2 = 0 → q.1 ≤ p.1) :
    mins t (L.map fun p => p.1 - p.2) = mins t (L.map Prod.fst) ∨ mins t (L.map fun p => p.1 - p.2) = mins (t + 1) (L.map Prod.fst) - (L.map Prod.snd).sum := by
  by_cases h : ∀ p ∈ L, p.2 = 1 → t < p.1
  · left
    unfold mins
    rw [List.map_map, List.map_map]
    congr 1
    apply List.map_congr_left
    intro p hp
    show min (p.1 - p.2) t = min p.1 t
    rcases hm p hp with e | e
    · rw [e]; simp
    · have := h p hp e
      omega
  · right
    have : ∃ p ∈ L, p.2 = 1 ∧ p.1 ≤ t := by
      by_cases q : ∃ p ∈ L, p.2 = 1 ∧ p.1 ≤ t
      · exact q
      · exact absurd (fun p hp h1 => by
          by_cases h2 : t < p.1
          · exact h2
          · exact absurd ⟨p, hp, h1, by omega⟩ q) h
    obtain ⟨p, hp, p1, p2⟩ := this
    have e : mins t (L.map fun p => p.1 - p.2) + (L.map Prod.snd).sum = mins (t + 1) (L.map Prod.fst) := by
      unfold mins
      rw [List.map_map, List.map_map, ← sum_map_add]
      congr 1
      apply List.map_congr_left
      intro q hq
      show min (q.1 - q.2) t + q.2 = min q.1 (t + 1)
      rcases hm q hq with e | e
      · have := hg p hp q hq p1 e
        omega
      · omega
    omega
/-- the step of the greedy table -/
theorem Pm.step {L : List (Int × Int)} {r : Int} {R : List Int} (hm : ∀ p ∈ L, p.2 = 0 ∨ p.2 = 1) (hg : ∀ p ∈ L, ∀ q ∈ L, p.2 = 1 → q.2 = 0 → q.1 ≤ p.1) (hs : (L.map Prod.snd).sum = r)
    (h : Pm (r :: R) (L.map Prod.fst)) : Pm R (L.map fun p => p.1 - p.2) := by
  have hd := h.symm
  refine Pm.symm ⟨?_, fun S hS => ?_⟩
  · have h1 := h.1
    have : (L.map fun p => p.1 - p.2).sum + (L.map Prod.snd).sum = (L.map Prod.fst).sum := by
      rw [← sum_map_add]
      congr 1
      apply List.map_congr_left
      intro q _
      show q.1 - q.2 + q.2 = q.1
      omega
    simp only [List.sum_cons] at h1
    omega
  · rcases mins_pairs (t := (S.length : Int)) hm hg with e | e
    · rw [e]; exact hd.2 S (hS.cons r)
    · have := hd.2 (r :: S) (hS.cons_cons r)
      simp only [List.sum_cons, List.length_cons] at this
      rw [e, hs]
      have e2 : ((S.length + 1 : Nat) : Int) = (S.length : Int) + 1 := by omega
      rw [e2] at this
      omega
theorem Pm.zero {C : List Int} (h : Pm [] C) : ∀ x ∈ C, x = 0 := by
  have h1 := h.symm.2 [] (List.Sublist.slnil)
  have h2 := h.1
  have key : ∀ l : List Int, mins 0 l ≤ 0 ∧ (0 ≤ mins 0 l → ∀ x ∈ l, 0 ≤ x) := by
    intro l
    induction l with
    | nil => simp
    | cons x l ih =>
      simp only [mins_cons]
      refine ⟨by omega, fun h y hy => ?_⟩
      rcases List.mem_cons.1 hy with rfl | hy
      · omega
      · exact ih.2 (by omega) y hy
  have h3 := (key C).2 (by simpa using h1)
  have key2 : ∀ l : List Int, (∀ x ∈ l, 0 ≤ x) → l.sum = 0 → ∀ x ∈ l, x = 0 := by
    intro l
    induction l with
    | nil => simp
    | cons x l ih =>
      intro h0 hs y hy
      have a := h0 x List.mem_cons_self
      have b := sum_nonneg (l := l) fun z hz => h0 z (List.mem_cons_of_mem _ hz)
      simp only [List.sum_cons] at hs
      rcases List.mem_cons.1 hy with rfl | hy
      · omega
      · exact ih (fun z hz => h0 z (List.mem_cons_of_mem _ hz)) (by omega) y hy
  exact key2 C h3 (by simpa using h2.symm)
end Lw

/-! the greedy table -/
namespace Lw
open PySem Ev
theorem insP_perm (x : Int × Int) : ∀ ys, (insertP x ys).Perm (x :: ys)
  | [] => .refl _
  | y :: ys => by
    unfold insertP; split
    · exact .refl _
    · exact ((insP_perm x ys).cons y).trans (.swap x y ys)
theorem soP_perm : ∀ xs, (sortP xs).Perm xs
  | [] => .refl _
  | x :: xs => (insP_perm x (sortP xs)).trans ((soP_perm xs).cons x)
theorem leP_fst {x y : Int × Int} (h : leP x y = true) : x.1 ≤ y.1 := by
  unfold leP at h
  simp at h
  omega
theorem leP_not {x y : Int × Int} (h : ¬ leP x y = true) : y.1 ≤ x.1 := by
  unfold leP at h
  simp at h
  omega
theorem insP_sorted (x : Int × Int) : ∀ ys : List (Int × Int), ys.Pairwise (fun a b => a.1 ≤ b.1) → (insertP x ys).Pairwise (fun a b => a.1 ≤ b.1)
  | [], _ => by simp [insertP]
  | y :: ys, h => by
    unfold insertP
    rw [List.pairwise_cons] at h
    split
    · rename_i hxy
      have := leP_fst hxy
      refine List.pairwise_cons.2 ⟨fun z hz => ?_, List.pairwise_cons.2 h⟩
      rcases List.mem_cons.1 hz with rfl | hz
      · exact this
      · exact Int.le_trans this (h.1 z hz)
    · rename_i hxy
      have := leP_not hxy
      refine List.pairwise_cons.2 ⟨fun z hz => ?_, insP_sorted x ys h.2⟩
      rcases List.mem_cons.1 ((insP_perm x ys).mem_iff.1 hz) with rfl | hz
      · exact this
      · exact h.1 z hz
theorem soP_sorted : ∀ xs, (sortP xs).Pairwise (fun a b => a.1 ≤ b.1)
  | [] => .nil
  | x :: xs => insP_sorted x _ (soP_sorted xs)
def lackP (l : List Int) : List (Int × Int) := (List.range l.length).map fun (j : Nat) => (-(itAt l j), (j : Int))
def taken (l : List Int) (r : Nat) : List Int := ((sortP (lackP l)).take r).map Prod.snd
def mrow (l : List Int) (r : Nat) : List Int := (List.range l.length).map fun (j : Nat) => if (taken l r).contains (j : Int) then 1 else 0
def lessRow (l m : List Int) : List Int := List.zipWith (fun x y => x - y) l m
/-- the rows made, and what is lacking behind them -/
def gtab : List Int → List Int → List (List Int) × List Int
  | l, [] => ([], l)
  | l, r :: rs => (mrow l r.toNat :: (gtab (lessRow l (mrow l r.toNat)) rs).1, (gtab (lessRow l (mrow l r.toNat)) rs).2)
theorem mrow_len (l : List Int) (r : Nat) : (mrow l r).length = l.length := by simp [mrow]
theorem mrow_01 (l : List Int) (r : Nat) : ∀ x ∈ mrow l r, x = 0 ∨ x = 1 := by
  intro x hx
  obtain ⟨j, _, rfl⟩ := List.mem_map.1 hx
  split
  · exact .inr rfl
  · exact .inl rfl
theorem lessRow_len (l : List Int) (r : Nat) : (lessRow l (mrow l r)).length = l.length := by simp [lessRow, mrow_len]
def ordr (l : List Int) : List Int := (sortP (lackP l)).map Prod.snd
theorem ordr_perm (l : List Int) : (ordr l).Perm ((List.range l.length).map fun (j : Nat) => (j : Int)) := by
  have := (soP_perm (lackP l)).map Prod.snd
  unfold lackP at this
  rw [List.map_map] at this
  exact this
theorem ordr_nodup (l : List Int) : (ordr l).Nodup := by
  rw [(ordr_perm l).nodup_iff]
  unfold List.Nodup
  rw [List.pairwise_map]
  exact List.nodup_range.imp fun {a b} h e => h (by omega)
theorem taken_eq (l : List Int) (r : Nat) : taken l r = (ordr l).take r := by
  unfold taken ordr; rw [List.map_take]
theorem sum_ind : ∀ (l s : List Int), l.Nodup → (∀ x ∈ l, x ∈ s) → (l.map fun x => if s.contains x then (1 : Int) else 0).sum = l.length
  | [], s, _, _ => by simp
  | x :: l, s, h, hs => by
    have ih := sum_ind l s (List.nodup_cons.1 h).2 fun y hy => hs y (List.mem_cons_of_mem _ hy)
    have hx := hs x List.mem_cons_self
    simp only [List.map_cons, List.sum_cons, ih, List.length_cons]
    rw [if_pos (by simpa using hx)]
    omega
theorem sum_ind0 : ∀ (l s : List Int), (∀ x ∈ l, ¬ x ∈ s) → (l.map fun x => if s.contains x then (1 : Int) else 0).sum = 0
  | [], s, _ => by simp
  | x :: l, s, hs => by
    have ih := sum_ind0 l s fun y hy => hs y (List.mem_cons_of_mem _ hy)
    have hx := hs x List.mem_cons_self
    simp only [List.map_cons, List.sum_cons, ih]
    rw [if_neg (by simpa using hx)]
    omega
theorem mrow_sum (l : List Int) {r : Nat} (h : r ≤ l.length) : (mrow l r).sum = r := by
  have e : mrow l r = ((List.range l.length).map fun (j : Nat) => (j : Int)).map fun x => if (taken l r).contains x then (1 : Int) else 0 := by
    unfold mrow; rw [List.map_map]; rfl
  rw [e, ← perm_sum ((ordr_perm l).map _), taken_eq]
  have e2 : ordr l = (ordr l).take r ++ (ordr l).drop r := (List.take_append_drop r _).symm
  have hn := ordr_nodup l
  have hl : (ordr l).length = l.length := by rw [(ordr_perm l).length_eq]; simp
  rw [e2, List.nodup_append] at hn
  conv => lhs; rw [e2]
  rw [List.map_append, List.sum_append]
  rw [← e2]
  rw [sum_ind _ _ hn.1 fun x hx => hx, sum_ind0 _ _ fun x hx hx2 => hn.2.2 x hx2 x hx rfl, List.length_take, hl]
  omega
/-- columns with their marks -/
def mk2 (l : List Int) (r : Nat) : List (Int × Int) := (List.range l.length).map fun (j : Nat) => (itAt l j, if (taken l r).contains (j : Int) then 1 else 0)
theorem mk2_fst (l : List Int) (r : Nat) : (mk2 l r).map Prod.fst = l := by
  unfold mk2
  rw [List.map_map]
  exact (row_range l).symm
theorem mk2_snd (l : List Int) (r : Nat) : (mk2 l r).map Prod.snd = mrow l r := by
  unfold mk2
  rw [List.map_map]; rfl
theorem mk2_less (l : List Int) (r : Nat) : (mk2 l r).map (fun p => p.1 - p.2) = lessRow l (mrow l r) := by
  have : ∀ L : List (Int × Int), L.map (fun p => p.1 - p.2) = List.zipWith (fun x y => x - y) (L.map Prod.fst) (L.map Prod.snd) := by
    intro L
    induction L with
    | nil => rfl
    | cons p L ih => rw [List.map_cons, List.map_cons, List.map_cons, List.zipWith_cons_cons, ih]
  rw [this, mk2_fst, mk2_snd]; rfl
theorem mk2_greedy (l : List Int) (r : Nat) : ∀ p ∈ mk2 l r, ∀ q ∈ mk2 l r, p.2 = 1 → q.2 = 0 → q.1 ≤ p.1 := by
  intro p hp q hq h1 h0
  obtain ⟨i, hi, rfl⟩ := List.mem_map.1 hp
  obtain ⟨j, hj, rfl⟩ := List.mem_map.1 hq
  simp only at h1 h0 ⊢
  have ti : (i : Int) ∈ taken l r := by
    by_cases e : (i : Int) ∈ taken l r
    · exact e
    · have e' : ¬ (taken l r).contains (i : Int) = true := by simpa using e
      rw [if_neg e'] at h1; cases h1
  have tj : ¬ (j : Int) ∈ taken l r := by
    intro e
    have e' : (taken l r).contains (j : Int) = true := by simpa using e
    rw [if_pos e'] at h0; cases h0
  have hs := soP_sorted (lackP l)
  rw [← List.take_append_drop r (sortP (lackP l)), List.pairwise_append] at hs
  have mem : ∀ p ∈ sortP (lackP l), p.1 = -(itAt l p.2.toNat) := by
    intro p hp
    obtain ⟨k, _, rfl⟩ := List.mem_map.1 ((soP_perm _).mem_iff.1 hp)
    simp
  obtain ⟨a, ha, ea⟩ := List.mem_map.1 ti
  have hb : (-(itAt l j), (j : Int)) ∈ sortP (lackP l) := (soP_perm _).mem_iff.2 (List.mem_map.2 ⟨j, hj, rfl⟩)
  rw [← List.take_append_drop r (sortP (lackP l)), List.mem_append] at hb
  rcases hb with hb | hb
  · exact absurd (List.mem_map.2 ⟨_, hb, rfl⟩) tj
  · have := hs.2.2 a ha _ hb
    have e := mem a (List.mem_of_mem_take ha)
    rw [ea, Int.toNat_natCast] at e
    rw [e] at this
    simp only at this
    omega
theorem Pm.mrow {l : List Int} {r : Int} {R : List Int} (h0 : 0 ≤ r) (h : Pm (r :: R) l) : (mrow l r.toNat).sum = r ∧ Pm R (lessRow l (Lw.mrow l r.toNat)) := by
  have hr := h.row_le r List.mem_cons_self
  have hs : (Lw.mrow l r.toNat).sum = r := by rw [mrow_sum l (by omega)]; omega
  refine ⟨hs, ?_⟩
  rw [← mk2_less]
  refine Pm.step (r := r) ?_ (mk2_greedy l _) (by rw [mk2_snd]; exact hs) (by rw [mk2_fst]; exact h)
  intro p hp
  have : p.2 ∈ Lw.mrow l r.toNat := by rw [← mk2_snd]; exact List.mem_map.2 ⟨p, hp, rfl⟩
  exact mrow_01 l _ _ this
theorem gtab_len : ∀ (l rs : List Int), (gtab l rs).1.length = rs.length ∧ (gtab l rs).2.length = l.length ∧ ∀ r ∈ (gtab l rs).1, r.length = l.length ∧ ∀ x ∈ r, x = 0 ∨ x = 1
  | l, [] => by simp [gtab]
  | l, r :: rs => by
    have := gtab_len (lessRow l (mrow l r.toNat)) rs
    rw [lessRow_len] at this
    refine ⟨by simp [gtab, this.1], this.2.1, fun x hx => ?_⟩
    rcases List.mem_cons.1 hx with rfl | hx
    · exact ⟨mrow_len l _, mrow_01 l _⟩
    · exact this.2.2 x hx
theorem itAt_less (l m : List Int) (h : m.length = l.length) (j : Nat) : itAt (lessRow l m) j = itAt l j - itAt m j := by
  unfold itAt lessRow
  simp only [List.getD_eq_getElem?_getD, List.getElem?_zipWith]
  rcases Nat.lt_or_ge j l.length with h1 | h1
  · rw [List.getElem?_eq_getElem h1, List.getElem?_eq_getElem (by omega)]; rfl
  · rw [List.getElem?_eq_none h1, List.getElem?_eq_none (by omega)]; rfl
theorem gtab_cols : ∀ (l rs : List Int) (j : Nat), itAt l j = ((gtab l rs).1.map fun r => itAt r j).sum + itAt (gtab l rs).2 j
  | l, [], j => by simp [gtab]
  | l, r :: rs, j => by
    have := gtab_cols (lessRow l (mrow l r.toNat)) rs j
    rw [itAt_less _ _ (mrow_len l _)] at this
    simp only [gtab, List.map_cons, List.sum_cons]
    omega
theorem gtab_good : ∀ (rs l : List Int), (∀ r ∈ rs, 0 ≤ r) → Pm rs l → (gtab l rs).1.map List.sum = rs ∧ ∀ x ∈ (gtab l rs).2, x = 0
  | [], l, _, h => ⟨rfl, h.zero⟩
  | r :: rs, l, h0, h => by
    obtain ⟨h1, h2⟩ := h.mrow (h0 r List.mem_cons_self)
    have := gtab_good rs _ (fun x hx => h0 x (List.mem_cons_of_mem _ hx)) h2
    exact ⟨by simp [gtab, h1, this.1], this.2⟩
theorem gtab_GT {l rs : List Int} (h1 : 1 ≤ rs.length) (h2 : rs.length ≤ 12) (h3 : 1 ≤ l.length) (h4 : l.length ≤ 12) : GT l.length (gtab l rs).1 := by
  have := gtab_len l rs
  exact ⟨by omega, by omega, this.2.2⟩
theorem cols_of {l : List Int} {t : List (List Int)} (h : ∀ j, j < l.length → itAt l j = (t.map fun r => itAt r j).sum) : cols l.length t = l := by
  conv => rhs; rw [row_range l]
  unfold cols
  apply List.map_congr_left
  intro j hj
  exact (h j (List.mem_range.1 hj)).symm
/-- the greedy table has the counts just if no columns ask for too much -/
theorem greedy_iff {rs l : List Int} (h0 : ∀ r ∈ rs, 0 ≤ r) (h1 : 1 ≤ rs.length) (h2 : rs.length ≤ 12) (h3 : 1 ≤ l.length) (h4 : l.length ≤ 12) :
    ((gtab l rs).1.map List.sum = rs ∧ cols l.length (gtab l rs).1 = l) ↔ Pm rs l := by
  refine ⟨fun ⟨e1, e2⟩ => ?_, fun h => ?_⟩
  · have := Pm.tab (gtab_GT h1 h2 h3 h4)
    rwa [e1, e2] at this
  · obtain ⟨a, b⟩ := gtab_good rs l h0 h
    refine ⟨a, cols_of fun j hj => ?_⟩
    have e := gtab_cols l rs j
    have hz : itAt (gtab l rs).2 j = 0 := by
      have hl := (gtab_len l rs).2.1
      exact b _ (List.mem_of_getElem? (get_it (by omega)))
    omega
/-- there is a table just if .. -/
theorem tab_iff {rs l : List Int} (h0 : ∀ r ∈ rs, 0 ≤ r) (h1 : 1 ≤ rs.length) (h2 : rs.length ≤ 12) (h3 : 1 ≤ l.length) (h4 : l.length ≤ 12) :
    (∃ t : List (List Int), GT l.length t ∧ t.map List.sum = rs ∧ cols l.length t = l) ↔ Pm rs l := by
  refine ⟨fun ⟨t, g, e1, e2⟩ => ?_, fun h => ⟨_, gtab_GT h1 h2 h3 h4, (greedy_iff h0 h1 h2 h3 h4).2 h⟩⟩
  have := Pm.tab g
  rwa [e1, e2] at this
end Lw

/-! gifts make counts easier to mark -/
namespace Lw
open PySem Ev
theorem sum_set : ∀ (l : List Int) (i : Nat) (a : Int), i < l.length → (l.set i a).sum = l.sum - itAt l i + a
  | [], _, _, h => absurd h (by simp)
  | x :: l, 0, a, _ => by simp [itAt]; omega
  | x :: l, i + 1, a, h => by
    have := sum_set l i a (by simpa using h)
    simp only [List.set_cons_succ, List.sum_cons, this]
    have e : itAt (x :: l) (i + 1) = itAt l i := by simp [itAt]
    rw [e]; omega
theorem mins_set (t : Int) (l : List Int) (i : Nat) (a : Int) (h : i < l.length) : mins t (l.set i a) = mins t l - min (itAt l i) t + min a t := by
  unfold mins
  rw [List.map_set, sum_set _ _ _ (by rw [List.length_map]; exact h)]
  have : itAt (l.map fun x => min x t) i = min (itAt l i) t := itAt_map (fun x => min x t) l i _ (get_it h)
  rw [this]
theorem itAt_set_ne (l : List Int) {i j : Nat} (a : Int) (h : i ≠ j) : itAt (l.set i a) j = itAt l j := by
  unfold itAt
  rw [List.getD_eq_getElem?_getD, List.getD_eq_getElem?_getD, List.getElem?_set_ne h]
theorem mem_set_or (l : List Int) (i : Nat) (a : Int) : ∀ x ∈ l.set i a, x = a ∨ x ∈ l := fun x hx => (List.mem_or_eq_of_mem_set hx).symm
/-- what comes of a row by gifts -/
structure Evr (row found : List Int) : Prop where
  len : found.length = row.length
  sum : found.sum = row.sum
  mn : ∀ t, mins t row ≤ mins t found
  bd : ∀ x ∈ found, (∃ y ∈ row, y ≤ x) ∧ ∃ y ∈ row, x ≤ y
theorem Evr.refl (row : List Int) : Evr row row := ⟨rfl, rfl, fun _ => Int.le_refl _, fun x hx => ⟨⟨x, hx, Int.le_refl x⟩, x, hx, Int.le_refl x⟩⟩
theorem itAt_mem {l : List Int} {i : Nat} (h : i < l.length) : itAt l i ∈ l := List.mem_of_getElem? (get_it h)
theorem Evr.gift {row found : List Int} (h : Evr row found) {i j : Nat} {m : Int} (hi : i < found.length) (hj : j < found.length) (hlt : itAt found j < itAt found i) (h1 : 1 ≤ m) (h2 : m ≤ itAt found i - itAt found j) :
    Evr row ((found.set i (itAt found i - m)).set j (itAt found j + m)) := by
  have hne : i ≠ j := by intro e; subst e; omega
  have hj2 : j < (found.set i (itAt found i - m)).length := by rw [List.length_set]; exact hj
  refine ⟨by simp [h.len], ?_, fun t => ?_, fun x hx => ?_⟩
  · rw [sum_set _ _ _ hj2, sum_set _ _ _ hi, itAt_set_ne _ _ hne, ← h.sum]; omega
  · rw [mins_set _ _ _ _ hj2, mins_set _ _ _ _ hi, itAt_set_ne _ _ hne]
    have := h.mn t
    omega
  · have bi := h.bd _ (itAt_mem hi)
    have bj := h.bd _ (itAt_mem hj)
    rcases mem_set_or _ _ _ x hx with e | hx
    · obtain ⟨⟨y, hy, l1⟩, _⟩ := bj
      obtain ⟨_, z, hz, l2⟩ := bi
      exact ⟨⟨y, hy, by omega⟩, z, hz, by omega⟩
    · rcases mem_set_or _ _ _ x hx with e | hx
      · obtain ⟨⟨y, hy, l1⟩, _⟩ := bj
        obtain ⟨_, z, hz, l2⟩ := bi
        exact ⟨⟨y, hy, by omega⟩, z, hz, by omega⟩
      · exact h.bd x hx
theorem Evr.pm {row found R : List Int} (h : Evr row found) (hp : Pm R row) : Pm R found := by
  have hs := hp.symm
  refine Pm.symm ⟨by rw [h.sum]; exact hs.1, fun S hS => Int.le_trans (hs.2 S hS) (h.mn _)⟩
/-- as even as the rows turned over -/
theorem evn_pm {R C : List Int} (h0 : ∀ x ∈ R, 0 ≤ x) (hc : 1 ≤ C.length) (hm : ∀ x ∈ R, x ≤ C.length) (hs : R.sum = C.sum) : evn C (over R C.length) = true ↔ Pm R C := by
  rw [evn_iff (by rw [over_len]) hc, pm_iff1 h0]
  have e : (over R C.length).sum = R.sum := by
    rw [over_sum R h0]
    congr 1
    conv => rhs; rw [← List.map_id R]
    apply List.map_congr_left
    intro x hx
    have := hm x hx
    show min x (C.length : Int) = x
    omega
  refine and_congr ⟨fun _ => hs, fun _ => by rw [e, hs]⟩ ⟨fun h k h1 h2 => ?_, fun h k h1 h2 => ?_⟩
  · have := h k h1 h2
    rwa [top_over R h0 h2] at this
  · rw [top_over R h0 h2]
    exact h k h1 h2
end Lw

/-! tables counted by a dict of what is lacking -/
namespace Lw
open PySem Ev
abbrev Dc : Type := List (List Int × Int)
def ksOf (m : Dc) : List (List Int) := m.map Prod.fst
def vsOf (m : Dc) : List D := m.map fun p => .int p.2
def lk (m : Dc) (k : List Int) : Int := ((m.find? fun p => decide (p.1 = k)).map (·.2)).getD 0
def put (m : Dc) (k : List Int) (v : Int) : Dc := if (ksOf m).contains k then m.map (fun p => if p.1 = k then (p.1, v) else p) else m ++ [(k, v)]
theorem zip_kv : ∀ m : Dc, (ksOf m).zip (vsOf m) = m.map fun p => (p.1, D.int p.2)
  | [] => rfl
  | p :: m => by
    have := zip_kv m
    unfold ksOf vsOf at this ⊢
    simp only [List.map_cons, List.zip_cons_cons, this]
theorem dAt_lk (m : Dc) (k : List Int) : (dAt k (ksOf m) (vsOf m)).getD (.int 0) = .int (lk m k) := by
  unfold dAt lk
  rw [zip_kv, List.find?_map]
  have : ((fun (p : List Int × D) => decide (p.1 = k)) ∘ fun (p : List Int × Int) => (p.1, D.int p.2)) = fun p => decide (p.1 = k) := rfl
  rw [this]
  cases m.find? fun p => decide (p.1 = k) <;> rfl
theorem dPut_put (m : Dc) (k : List Int) (v : Int) : (dPut k (.int v) (ksOf m) (vsOf m)).1 = ksOf (put m k v) ∧ (dPut k (.int v) (ksOf m) (vsOf m)).2 = vsOf (put m k v) := by
  unfold dPut put
  by_cases h : (ksOf m).contains k = true
  · rw [if_pos h, if_pos h]
    refine ⟨?_, ?_⟩
    · unfold ksOf
      rw [List.map_map]
      apply List.map_congr_left
      intro p _
      show p.1 = (if p.1 = k then (p.1, v) else p).1
      split <;> rfl
    · unfold ksOf vsOf
      rw [List.zipWith_map, List.zipWith_self, List.map_map]
      apply List.map_congr_left
      intro p _
      show (if p.1 = k then D.int v else D.int p.2) = D.int (if p.1 = k then (p.1, v) else p).2
      split <;> rfl
  · rw [if_neg h, if_neg h]
    simp [ksOf, vsOf]
theorem lk_nil (k : List Int) : lk [] k = 0 := rfl
theorem lk_cons (p : List Int × Int) (m : Dc) (k : List Int) : lk (p :: m) k = if p.1 = k then p.2 else lk m k := by
  unfold lk
  rw [List.find?_cons]
  by_cases h : p.1 = k
  · simp [h]
  · simp [h]
theorem lk_none {m : Dc} {k : List Int} (h : ¬ k ∈ ksOf m) : lk m k = 0 := by
  induction m with
  | nil => rfl
  | cons p m ih =>
    unfold ksOf at h ih
    simp only [List.map_cons, List.mem_cons, not_or] at h
    rw [lk_cons, if_neg (fun e => h.1 e.symm), ih h.2]
theorem lk_put (m : Dc) (k k' : List Int) (v : Int) : lk (put m k v) k' = if k = k' then v else lk m k' := by
  unfold put
  by_cases h : (ksOf m).contains k = true
  · rw [if_pos h]
    have hm : k ∈ ksOf m := by simpa using h
    clear h
    induction m with
    | nil => simp [ksOf] at hm
    | cons p m ih =>
      rw [List.map_cons, lk_cons, lk_cons]
      by_cases q : p.1 = k
      · rw [if_pos q]
        by_cases e : k = k'
        · rw [if_pos e, if_pos (by rw [← e]; exact q)]
        · rw [if_neg e]
          have e2 : ¬ p.1 = k' := by rw [q]; exact e
          rw [if_neg e2, if_neg e2]
          by_cases hk : k ∈ ksOf m
          · rw [ih hk, if_neg e]
          · have : m.map (fun p => if p.1 = k then (p.1, v) else p) = m := by
              conv => rhs; rw [← List.map_id m]
              apply List.map_congr_left
              intro r hr
              rw [if_neg fun e => hk (List.mem_map.2 ⟨r, hr, e⟩)]; rfl
            rw [this]
      · rw [if_neg q]
        have hk : k ∈ ksOf m := by
          unfold ksOf at hm ⊢
          simp only [List.map_cons, List.mem_cons] at hm
          rcases hm with e | e
          · exact absurd e.symm q
          · exact e
        rw [ih hk]
        by_cases e : k = k'
        · subst e
          simp [q]
        · rw [if_neg e, if_neg e]
  · rw [if_neg h]
    have hm : ¬ k ∈ ksOf m := by simpa using h
    clear h
    induction m with
    | nil => rw [List.nil_append, lk_cons]
    | cons p m ih =>
      unfold ksOf at hm ih
      simp only [List.map_cons, List.mem_cons, not_or] at hm
      rw [List.cons_append, lk_cons, lk_cons, ih hm.2]
      by_cases e : p.1 = k'
      · rw [if_pos e, if_pos e, if_neg fun h => hm.1 (h.trans e.symm)]
      · rw [if_neg e, if_neg e]
theorem keys_put (m : Dc) (k : List Int) (v : Int) : ksOf (put m k v) = if (ksOf m).contains k then ksOf m else ksOf m ++ [k] := by
  rw [← (dPut_put m k v).1]
  unfold dPut
  split <;> rfl
theorem put_nodup {m : Dc} (h : (ksOf m).Nodup) (k : List Int) (v : Int) : (ksOf (put m k v)).Nodup := by
  rw [keys_put]
  split
  · exact h
  · rename_i hk
    have hk : ¬ k ∈ ksOf m := by simpa using hk
    exact List.nodup_append.2 ⟨h, by simp, fun a ha b hb e => by
      rw [List.mem_singleton] at hb
      subst hb; subst e; exact hk ha⟩
theorem put_mem {m : Dc} {k : List Int} {v : Int} : ∀ x ∈ ksOf (put m k v), x = k ∨ x ∈ ksOf m := by
  intro x hx
  rw [keys_put] at hx
  split at hx
  · exact .inr hx
  · rcases List.mem_append.1 hx with h | h
    · exact .inr h
    · exact .inl (by simpa using h)
/-- the sum of what keys hold is what a key holds -/
theorem lk_sum {m : Dc} (h : (ksOf m).Nodup) (k : List Int) : (m.map fun p => if p.1 = k then p.2 else 0).sum = lk m k := by
  induction m with
  | nil => rfl
  | cons p m ih =>
    unfold ksOf at h ih
    rw [List.map_cons, List.nodup_cons] at h
    rw [List.map_cons, List.sum_cons, ih h.2, lk_cons]
    by_cases e : p.1 = k
    · rw [if_pos e, if_pos e, lk_none (m := m) (k := k) (by rw [← e]; exact h.1)]; omega
    · rw [if_neg e, if_neg e]; omega
theorem lk_mem {m : Dc} (h : (ksOf m).Nodup) {p : List Int × Int} (hp : p ∈ m) : lk m p.1 = p.2 := by
  induction m with
  | nil => cases hp
  | cons q m ih =>
    unfold ksOf at h ih
    rw [List.map_cons, List.nodup_cons] at h
    rw [lk_cons]
    rcases List.mem_cons.1 hp with rfl | hp
    · rw [if_pos rfl]
    · have e : ¬ q.1 = p.1 := fun e => h.1 (e ▸ List.mem_map.2 ⟨p, hp, rfl⟩)
      rw [if_neg e, ih h.2 hp]
theorem dAt_mem {m : Dc} (h : (ksOf m).Nodup) {p : List Int × Int} (hp : p ∈ m) : dAt p.1 (ksOf m) (vsOf m) = some (.int p.2) := by
  induction m with
  | nil => cases hp
  | cons q m ih =>
    unfold ksOf at h ih
    rw [List.map_cons, List.nodup_cons] at h
    unfold dAt at ih ⊢
    unfold ksOf vsOf at *
    rw [List.map_cons, List.map_cons, List.zip_cons_cons, List.find?_cons]
    rcases List.mem_cons.1 hp with rfl | hp
    · simp
    · have e : ¬ q.1 = p.1 := fun e => h.1 (e ▸ List.mem_map.2 ⟨p, hp, rfl⟩)
      have : decide (q.1 = p.1) = false := decide_eq_false e
      rw [this]
      exact ih h.2 hp
/-! one step -/
def plusRow (l m : List Int) : List Int := List.zipWith (fun x y => x + y) l m
/-- from each row that is left, one row of marks on -/
def stepM (a : List Int) (ways later : Dc) : Dc := ways.foldl (fun l p => put l (lessRow p.1 a) (lk l (lessRow p.1 a) + p.2)) later
theorem less_plus {l a k : List Int} (h1 : l.length = a.length) (h2 : k.length = a.length) : lessRow l a = k ↔ l = plusRow k a := by
  unfold lessRow plusRow
  induction a generalizing l k with
  | nil =>
    cases l with
    | cons _ _ => simp at h1
    | nil => cases k with
      | cons _ _ => simp at h2
      | nil => simp
  | cons x a ih =>
    cases l with
    | nil => simp at h1
    | cons y l => cases k with
      | nil => simp at h2
      | cons z k =>
        simp only [List.length_cons, Nat.add_right_cancel_iff] at h1 h2
        simp only [List.zipWith_cons_cons, List.cons.injEq]
        rw [ih h1 h2]
        refine and_congr_left fun _ => ⟨fun h => by omega, fun h => by omega⟩
/-- rows of one length all -/
def Ln (n : Nat) (m : Dc) : Prop := ∀ k ∈ ksOf m, k.length = n
theorem lk_stepM {n : Nat} {a : List Int} (ha : a.length = n) : ∀ (ways later : Dc), Ln n ways → ∀ k : List Int, k.length = n →
    lk (stepM a ways later) k = lk later k + (ways.map fun p => if p.1 = plusRow k a then p.2 else 0).sum
  | [], later, _, k, _ => by simp [stepM]
  | p :: ways, later, hl, k, hk => by
    have ih := lk_stepM ha ways (put later (lessRow p.1 a) (lk later (lessRow p.1 a) + p.2)) (fun x hx => hl x (List.mem_cons_of_mem _ hx)) k hk
    have hp : p.1.length = n := hl p.1 List.mem_cons_self
    unfold stepM at ih ⊢
    rw [List.foldl_cons, ih, lk_put, List.map_cons, List.sum_cons]
    by_cases e : lessRow p.1 a = k
    · rw [if_pos e, if_pos ((less_plus (by omega) (by omega)).1 e), e]; omega
    · rw [if_neg e, if_neg fun h => e ((less_plus (by omega) (by omega)).2 h)]; omega
theorem stepM_keys {a : List Int} : ∀ (ways later : Dc), (ksOf later).Nodup → (ksOf (stepM a ways later)).Nodup ∧ ∀ x ∈ ksOf (stepM a ways later), x ∈ ksOf later ∨ ∃ k ∈ ksOf ways, x = lessRow k a
  | [], later, h => ⟨h, fun x hx => .inl hx⟩
  | p :: ways, later, h => by
    have ih := stepM_keys (a := a) ways (put later (lessRow p.1 a) (lk later (lessRow p.1 a) + p.2)) (put_nodup h _ _)
    refine ⟨ih.1, fun x hx => ?_⟩
    rcases ih.2 x hx with h1 | ⟨k, h1, h2⟩
    · rcases put_mem x h1 with h1 | h1
      · exact .inr ⟨p.1, List.mem_cons_self, h1⟩
      · exact .inl h1
    · exact .inr ⟨k, List.mem_cons_of_mem _ h1, h2⟩
def stepC (A : List (List Int)) (ways later : Dc) : Dc := A.foldl (fun l a => stepM a ways l) later
theorem stepC_keys {ways : Dc} : ∀ (A : List (List Int)) (later : Dc), (ksOf later).Nodup → (ksOf (stepC A ways later)).Nodup ∧ ∀ x ∈ ksOf (stepC A ways later), x ∈ ksOf later ∨ ∃ a ∈ A, ∃ k ∈ ksOf ways, x = lessRow k a
  | [], later, h => ⟨h, fun x hx => .inl hx⟩
  | a :: A, later, h => by
    obtain ⟨n1, h1⟩ := stepM_keys (a := a) ways later h
    obtain ⟨n2, h2⟩ := stepC_keys A (stepM a ways later) n1
    refine ⟨n2, fun x hx => ?_⟩
    rcases h2 x hx with h3 | ⟨b, hb, k, h3, h4⟩
    · rcases h1 x h3 with h3 | ⟨k, h3, h4⟩
      · exact .inl h3
      · exact .inr ⟨a, List.mem_cons_self, k, h3, h4⟩
    · exact .inr ⟨b, List.mem_cons_of_mem _ hb, k, h3, h4⟩
theorem lk_stepC {n : Nat} {ways : Dc} (hn : (ksOf ways).Nodup) (hl : Ln n ways) {k : List Int} (hk : k.length = n) : ∀ (A : List (List Int)) (later : Dc), (∀ a ∈ A, a.length = n) →
    lk (stepC A ways later) k = lk later k + (A.map fun a => lk ways (plusRow k a)).sum
  | [], later, _ => by simp [stepC]
  | a :: A, later, hA => by
    have ih := lk_stepC hn hl hk A (stepM a ways later) fun x hx => hA x (List.mem_cons_of_mem _ hx)
    unfold stepC at ih ⊢
    rw [List.foldl_cons, ih, lk_stepM (hA a List.mem_cons_self) ways later hl k hk, lk_sum hn, List.map_cons, List.sum_cons]
    omega
/-! all steps -/
theorem All2.right' {α β : Type} {Q : α → β → Prop} {R : β → Prop} {xs : List α} {ys : List β} (h : All2 Q xs ys) (f : ∀ x y, x ∈ xs → Q x y → R y) : ∀ y ∈ ys, R y := by
  induction h with
  | nil => simp
  | cons q _ ih =>
    intro y hy
    rcases List.mem_cons.1 hy with rfl | hy
    · exact f _ _ List.mem_cons_self q
    · exact ih (fun x y hx => f x y (List.mem_cons_of_mem _ hx)) y hy
def runC : List (List (List Int)) → Dc → Dc
  | [], ways => ways
  | A :: As, ways => runC As (stepC A ways [])
/-- all choices -/
def seqs : List (List (List Int)) → List (List (List Int))
  | [] => [[]]
  | A :: As => A.flatMap fun a => (seqs As).map (a :: ·)
def addAll (k : List Int) (s : List (List Int)) : List Int := s.foldr (fun a k => plusRow k a) k
theorem addAll_len {n : Nat} {k : List Int} (hk : k.length = n) : ∀ {s : List (List Int)}, (∀ a ∈ s, a.length = n) → (addAll k s).length = n
  | [], _ => hk
  | a :: s, h => by
    have := addAll_len hk (s := s) fun x hx => h x (List.mem_cons_of_mem _ hx)
    show (plusRow (addAll k s) a).length = n
    simp [plusRow, this, h a List.mem_cons_self]
theorem seqs_mem : ∀ {As : List (List (List Int))} {s : List (List Int)}, s ∈ seqs As ↔ All2 (fun A a => a ∈ A) As s
  | [], s => by
    simp only [seqs, List.mem_singleton]
    exact ⟨fun h => h ▸ .nil, fun h => by cases h; rfl⟩
  | A :: As, s => by
    simp only [seqs, List.mem_flatMap, List.mem_map]
    refine ⟨fun ⟨a, ha, t, ht, e⟩ => e ▸ .cons ha (seqs_mem.1 ht), fun h => ?_⟩
    cases h with
    | cons q t => exact ⟨_, q, _, seqs_mem.2 t, rfl⟩
theorem sum_flatMap {α β : Type} (f : α → List β) (g : β → Int) : ∀ l : List α, ((l.flatMap f).map g).sum = (l.map fun x => ((f x).map g).sum).sum
  | [] => rfl
  | x :: l => by simp [sum_flatMap f g l]
theorem lk_runC {n : Nat} {k : List Int} (hk : k.length = n) : ∀ (As : List (List (List Int))) (ways : Dc), (ksOf ways).Nodup → Ln n ways → (∀ A ∈ As, ∀ a ∈ A, a.length = n) →
    lk (runC As ways) k = ((seqs As).map fun s => lk ways (addAll k s)).sum
  | [], ways, _, _, _ => by simp [runC, seqs, addAll]
  | A :: As, ways, hn, hl, hA => by
    obtain ⟨n1, h1⟩ := stepC_keys (ways := ways) A [] (by simp [ksOf])
    have hl1 : Ln n (stepC A ways []) := by
      intro x hx
      rcases h1 x hx with h | ⟨a, ha, k, hk, e⟩
      · cases h
      · rw [e]
        have := hl k hk
        have := hA A List.mem_cons_self a ha
        simp [lessRow]; omega
    rw [runC, lk_runC hk As _ n1 hl1 fun B hB => hA B (List.mem_cons_of_mem _ hB)]
    rw [seqs, sum_flatMap]
    have e1 : ∀ s ∈ seqs As, lk (stepC A ways []) (addAll k s) = (A.map fun a => lk ways (plusRow (addAll k s) a)).sum := by
      intro s hs
      have hs2 : ∀ a ∈ s, a.length = n := All2.right' (seqs_mem.1 hs) fun B a hB hab => hA B (List.mem_cons_of_mem _ hB) a hab
      rw [lk_stepC hn hl (addAll_len hk hs2) A [] (hA A List.mem_cons_self), lk_nil]
      omega
    rw [List.map_congr_left e1, sum_swap (fun s a => lk ways (plusRow (addAll k s) a))]
    congr 1
    apply List.map_congr_left
    intro a _
    rw [List.map_map]
    rfl
end Lw

/-! how many tables there are -/
namespace Lw
open PySem Ev
/-- all rows of noughts and ones -/
def allrows : Nat → List (List Int)
  | 0 => [[]]
  | n + 1 => (allrows n).flatMap fun r => [r ++ [0], r ++ [1]]
def rowsW (n : Nat) (c : Int) : List (List Int) := (allrows n).filter fun r => decide (r.sum = c)
def M01 (n : Nat) (r : List Int) : Prop := r.length = n ∧ ∀ x ∈ r, x = 0 ∨ x = 1
theorem allrows_mem : ∀ {n : Nat} {r : List Int}, r ∈ allrows n ↔ M01 n r
  | 0, r => by
    simp only [allrows, List.mem_singleton, M01]
    refine ⟨fun h => by subst h; simp, fun h => List.eq_nil_of_length_eq_zero h.1⟩
  | n + 1, r => by
    simp only [allrows, List.mem_flatMap, List.mem_cons, List.not_mem_nil, or_false]
    refine ⟨fun ⟨s, hs, h⟩ => ?_, fun ⟨h1, h2⟩ => ?_⟩
    · obtain ⟨l, q⟩ := allrows_mem.1 hs
      rcases h with rfl | rfl
      · refine ⟨by simp [l], fun x hx => ?_⟩
        rcases List.mem_append.1 hx with hx | hx
        · exact q x hx
        · exact .inl (by simpa using hx)
      · refine ⟨by simp [l], fun x hx => ?_⟩
        rcases List.mem_append.1 hx with hx | hx
        · exact q x hx
        · exact .inr (by simpa using hx)
    · have hne : r ≠ [] := by intro e; rw [e] at h1; simp at h1
      refine ⟨r.dropLast, allrows_mem.2 ⟨by simp [h1], fun x hx => h2 x (List.dropLast_subset r hx)⟩, ?_⟩
      have e := List.dropLast_concat_getLast hne
      rcases h2 _ (List.getLast_mem hne) with q | q
      · left; rw [← q]; exact e.symm
      · right; rw [← q]; exact e.symm
theorem allrows_nodup : ∀ n : Nat, (allrows n).Nodup
  | 0 => by simp [allrows]
  | n + 1 => by
    unfold List.Nodup
    rw [allrows, List.pairwise_flatMap]
    refine ⟨fun r _ => by simp, (allrows_nodup n).imp fun {a b} h => ?_⟩
    intro x hx y hy e
    subst e
    simp only [List.mem_cons, List.not_mem_nil, or_false] at hx hy
    rcases hx with rfl | rfl <;> rcases hy with e | e <;> exact h (by have := congrArg List.dropLast e; simpa using this)
theorem rowsW_mem {n : Nat} {c : Int} {r : List Int} : r ∈ rowsW n c ↔ M01 n r ∧ r.sum = c := by
  unfold rowsW
  rw [List.mem_filter, allrows_mem, decide_eq_true_iff]
/-- how many tables of width n have the row counts cs and the column counts r -/
def Mc (n : Nat) (cs r : List Int) : Nat := ((seqs (cs.map (rowsW n))).filter fun s => decide (cols n s = r)).length
theorem seqs_rows {n : Nat} : ∀ {cs : List Int} {s : List (List Int)}, s ∈ seqs (cs.map (rowsW n)) ↔ (∀ r ∈ s, M01 n r) ∧ s.map List.sum = cs
  | [], s => by
    simp only [List.map_nil, seqs, List.mem_singleton]
    refine ⟨fun h => by subst h; simp, fun h => by simpa using h.2⟩
  | c :: cs, s => by
    simp only [List.map_cons, seqs, List.mem_flatMap, List.mem_map]
    refine ⟨fun ⟨a, ha, t, ht, e⟩ => ?_, fun ⟨h1, h2⟩ => ?_⟩
    · obtain ⟨q1, q2⟩ := seqs_rows.1 ht
      have qa := rowsW_mem.1 ha
      subst e
      refine ⟨fun r hr => ?_, by simp [qa.2, q2]⟩
      rcases List.mem_cons.1 hr with rfl | hr
      · exact qa.1
      · exact q1 r hr
    · cases s with
      | nil => simp at h2
      | cons a t =>
        simp only [List.map_cons, List.cons.injEq] at h2
        exact ⟨a, rowsW_mem.2 ⟨h1 a List.mem_cons_self, h2.1⟩, t, seqs_rows.2 ⟨fun r hr => h1 r (List.mem_cons_of_mem _ hr), h2.2⟩, rfl⟩
theorem itAt_plus (k a : List Int) (h : a.length = k.length) (j : Nat) : itAt (plusRow k a) j = itAt k j + itAt a j := by
  unfold itAt plusRow
  simp only [List.getD_eq_getElem?_getD, List.getElem?_zipWith]
  rcases Nat.lt_or_ge j k.length with h1 | h1
  · rw [List.getElem?_eq_getElem h1, List.getElem?_eq_getElem (by omega)]; rfl
  · rw [List.getElem?_eq_none h1, List.getElem?_eq_none (by omega)]; rfl
theorem itAt_addAll {n : Nat} {k : List Int} (hk : k.length = n) (j : Nat) : ∀ {s : List (List Int)}, (∀ a ∈ s, a.length = n) → itAt (addAll k s) j = itAt k j + (s.map fun r => itAt r j).sum
  | [], _ => by simp [addAll]
  | a :: s, h => by
    have hs : ∀ a ∈ s, a.length = n := fun x hx => h x (List.mem_cons_of_mem _ hx)
    have ih := itAt_addAll hk j hs
    show itAt (plusRow (addAll k s) a) j = _
    rw [itAt_plus _ _ (by rw [addAll_len hk hs]; exact h a List.mem_cons_self), ih, List.map_cons, List.sum_cons]
    omega
def zeros (n : Nat) : List Int := List.replicate n 0
theorem zeros_at (n j : Nat) : itAt (zeros n) j = 0 := by
  unfold itAt zeros
  rw [List.getD_eq_getElem?_getD, List.getElem?_replicate]
  split <;> rfl
theorem addAll_zeros {n : Nat} {s : List (List Int)} (h : ∀ a ∈ s, a.length = n) : addAll (zeros n) s = cols n s := by
  have hl : (addAll (zeros n) s).length = n := addAll_len (by simp [zeros]) h
  conv => lhs; rw [row_range (addAll (zeros n) s), hl]
  unfold cols
  apply List.map_congr_left
  intro j _
  rw [itAt_addAll (by simp [zeros]) j h, zeros_at]
  omega
theorem sum_filter {α : Type} (p : α → Prop) [DecidablePred p] : ∀ l : List α, (l.map fun x => if p x then (1 : Int) else 0).sum = ((l.filter fun x => decide (p x)).length : Int)
  | [] => rfl
  | x :: l => by
    have := sum_filter p l
    by_cases q : p x
    · rw [List.filter_cons_of_pos (by simpa using q), List.map_cons, List.sum_cons, this, if_pos q, List.length_cons]; omega
    · rw [List.filter_cons_of_neg (by simpa using q), List.map_cons, List.sum_cons, this, if_neg q]; omega
/-- what the dict says in the end -/
theorem runC_count {n : Nat} {cs r : List Int} (hr : r.length = n) : lk (runC (cs.map (rowsW n)) [(r, 1)]) (zeros n) = (Mc n cs r : Int) := by
  have hA : ∀ A ∈ cs.map (rowsW n), ∀ a ∈ A, a.length = n := by
    intro A hA a ha
    obtain ⟨c, _, rfl⟩ := List.mem_map.1 hA
    exact (rowsW_mem.1 ha).1.1
  rw [lk_runC (by simp [zeros]) _ _ (by simp [ksOf]) (by intro k hk; simp [ksOf] at hk; rw [hk]; exact hr) hA]
  unfold Mc
  rw [← sum_filter]
  congr 1
  apply List.map_congr_left
  intro s hs
  have h := seqs_rows.1 hs
  rw [addAll_zeros fun a ha => (h.1 a ha).1, lk_cons, lk_nil]
  by_cases e : r = cols n s
  · rw [if_pos e, if_pos e.symm]
  · rw [if_neg e, if_neg fun h => e h.symm]
theorem Mc_pos {n : Nat} {cs r : List Int} (h0 : ∀ c ∈ cs, 0 ≤ c) (h1 : 1 ≤ cs.length) (h2 : cs.length ≤ 12) (hr : r.length = n) (h3 : 1 ≤ n) (h4 : n ≤ 12) : 0 < Mc n cs r ↔ Pm cs r := by
  subst hr
  rw [← tab_iff h0 h1 h2 h3 h4]
  unfold Mc
  rw [List.length_pos_iff_exists_mem]
  refine ⟨fun ⟨s, hs⟩ => ?_, fun ⟨t, g, e1, e2⟩ => ⟨t, ?_⟩⟩
  · rw [List.mem_filter, decide_eq_true_iff] at hs
    obtain ⟨q1, q2⟩ := seqs_rows.1 hs.1
    have hl : s.length = cs.length := by rw [← q2, List.length_map]
    exact ⟨s, ⟨⟨by omega, by omega⟩, ⟨h3, h4⟩, q1⟩, q2, hs.2⟩
  · rw [List.mem_filter, decide_eq_true_iff]
    exact ⟨seqs_rows.2 ⟨g.2.2, e1⟩, e2⟩
/-! not too many keys -/
theorem nodup_le {α : Type} [DecidableEq α] : ∀ {l m : List α}, l.Nodup → (∀ x ∈ l, x ∈ m) → l.length ≤ m.length
  | [], m, _, _ => by simp
  | x :: l, m, h, hs => by
    rw [List.nodup_cons] at h
    have hx := hs x List.mem_cons_self
    have := nodup_le (l := l) (m := m.erase x) h.2 fun y hy => (List.mem_erase_of_ne (fun (e : y = x) => h.1 (e ▸ hy))).2 (hs y (List.mem_cons_of_mem _ hy))
    rw [List.length_erase_of_mem hx] at this
    have : 0 < m.length := List.length_pos_of_mem hx
    simp; omega
/-- rows at most j below r -/
def boxL (j : Nat) : List Int → List (List Int)
  | [] => [[]]
  | x :: r => (List.range (j + 1)).flatMap fun (d : Nat) => (boxL j r).map ((x - (d : Int)) :: ·)
theorem boxL_len (j : Nat) : ∀ r : List Int, (boxL j r).length = (j + 1) ^ r.length
  | [] => rfl
  | x :: r => by
    rw [boxL, List.length_flatMap]
    simp only [List.length_map, boxL_len j r]
    have : ∀ (m : Nat) (l : List Nat), (l.map fun _ => m).sum = l.length * m := by
      intro m l
      induction l with
      | nil => simp
      | cons _ _ ih => simp [ih, Nat.add_mul]; omega
    rw [this, List.length_range, List.length_cons, Nat.pow_succ, Nat.mul_comm]
/-- each item at most j below -/
def Bel (j : Nat) : List Int → List Int → Prop
  | [], [] => True
  | x :: r, y :: k => (y ≤ x ∧ x ≤ y + j) ∧ Bel j r k
  | _, _ => False
theorem Bel.mem {j : Nat} : ∀ {r k : List Int}, Bel j r k → k ∈ boxL j r
  | [], [], _ => by simp [boxL]
  | x :: r, y :: k, h => by
    rw [boxL, List.mem_flatMap]
    refine ⟨(x - y).toNat, List.mem_range.2 (by have := h.1; omega), List.mem_map.2 ⟨k, Bel.mem h.2, ?_⟩⟩
    have := h.1
    have e : x - ((x - y).toNat : Int) = y := by omega
    rw [e]
  | [], _ :: _, h => h.elim
  | _ :: _, [], h => h.elim
theorem Bel.self : ∀ r : List Int, Bel 0 r r
  | [] => trivial
  | x :: r => ⟨⟨by omega, by omega⟩, Bel.self r⟩
theorem Bel.len {j : Nat} : ∀ {r k : List Int}, Bel j r k → k.length = r.length
  | [], [], _ => rfl
  | x :: r, y :: k, h => by simp [Bel.len h.2]
  | [], _ :: _, h => h.elim
  | _ :: _, [], h => h.elim
theorem Bel.less {j : Nat} : ∀ {r k a : List Int}, Bel j r k → M01 r.length a → Bel (j + 1) r (lessRow k a)
  | [], [], a, _, _ => by simp [lessRow, Bel]
  | x :: r, y :: k, a, h, ha => by
    cases a with
    | nil => exact absurd ha.1 (by simp)
    | cons b a =>
      have hb := ha.2 b List.mem_cons_self
      have := h.1
      refine ⟨?_, Bel.less h.2 ⟨by simpa using ha.1, fun z hz => ha.2 z (List.mem_cons_of_mem _ hz)⟩⟩
      simp only
      rcases hb with rfl | rfl <;> omega
  | [], _ :: _, _, h, _ => h.elim
  | _ :: _, [], _, h, _ => h.elim
/-- the keys of a dict behind j steps -/
def Kb (r : List Int) (j : Nat) (m : Dc) : Prop := (ksOf m).Nodup ∧ ∀ k ∈ ksOf m, Bel j r k
theorem Kb.len {r : List Int} {j : Nat} {m : Dc} (h : Kb r j m) : m.length ≤ (j + 1) ^ r.length := by
  have := nodup_le h.1 fun k hk => (h.2 k hk).mem
  rw [boxL_len] at this
  unfold ksOf at this
  rwa [List.length_map] at this
theorem Kb.start (r : List Int) : Kb r 0 [(r, 1)] := ⟨by simp [ksOf], fun k hk => by
  simp [ksOf] at hk; subst hk; exact Bel.self _⟩
theorem Kb.nil (r : List Int) (j : Nat) : Kb r j [] := ⟨by simp [ksOf], fun k hk => by simp [ksOf] at hk⟩
theorem Kb.put {r k : List Int} {j : Nat} {m : Dc} {v : Int} (h : Kb r j m) (hk : Bel j r k) : Kb r j (put m k v) := ⟨put_nodup h.1 _ _, fun x hx => by
  rcases put_mem x hx with rfl | hx
  · exact hk
  · exact h.2 x hx⟩
theorem Kb.stepM {r a : List Int} {j : Nat} (ha : M01 r.length a) : ∀ {ways later : Dc}, Kb r j ways → Kb r (j + 1) later → Kb r (j + 1) (stepM a ways later)
  | [], later, _, h => h
  | p :: ways, later, hw, h => by
    have h1 : Kb r j ways := ⟨(List.nodup_cons.1 hw.1).2, fun k hk => hw.2 k (List.mem_cons_of_mem _ hk)⟩
    exact Kb.stepM (ways := ways) ha h1 (h.put (Bel.less (hw.2 p.1 List.mem_cons_self) ha))
theorem Kb.stepC {r : List Int} {j : Nat} {ways : Dc} (hw : Kb r j ways) : ∀ {A : List (List Int)} {later : Dc}, (∀ a ∈ A, M01 r.length a) → Kb r (j + 1) later → Kb r (j + 1) (stepC A ways later)
  | [], later, _, h => h
  | a :: A, later, ha, h => Kb.stepC (A := A) hw (fun b hb => ha b (List.mem_cons_of_mem _ hb)) (Kb.stepM (ha a List.mem_cons_self) hw h)
end Lw

namespace Lw
open PySem Ev
def b_is_integer : List S := [.ret (.and (.isi .int (.var 0)) (.not (.isi .bool (.var 0))))]
def b_is_whole : List S := [.ret (.and (.call 0 [.var 0]) (.chain .le .le (.var 1) (.var 0) (.var 2)))]
def b_need_whole : List S := [.ifs (.not (.call 1 [.var 0, .var 1, .var 2])) [.raise 2] []]
def b_is_tuple_of : List S := [.ret (.and (.isi .tuple (.var 0)) (.chain .le .le (.var 1) (.bi .len [.var 0]) (.var 2)))]
def b_fits_row : List S := [.ret (.and (.call 3 [.var 0, .con (.int 1), .con (.int (12))]) (.bi .all [.comp [1] (.var 1) (.var 0) (.con (.bl true)) (.call 1 [.var 1, .neg (.con (.int (1000000))), .con (.int (1000000))])]))]
def b_need_row : List S := [.ifs (.not (.call 4 [.var 0])) [.raise 1] []]
def b_need_as_long : List S := [.ifs (.or (.not (.call 4 [.var 1])) (.cmp .ne (.bi .len [.var 1]) (.bi .len [.var 0]))) [.raise 1] []]
def b_falling : List S := [.ret (.bi .tuple [.bi .sortedR [.var 0]])]
def b_fronts_in : List S := [.par [2, 3] [.lst [], .con (.int 0)], .for_ (.var 1) (.call 7 [.var 0]) [.asg (.var 3) (.bin .add (.var 3) (.var 1)), .append 2 (.var 3)], .ret (.bi .tuple [.var 2])]
def b_is_as_even_in : List S := [.par [2, 3] [.call 8 [.var 0], .call 8 [.var 1]], .ret (.and (.cmp .eq (.ix (.var 2) (.neg (.con (.int 1)))) (.ix (.var 3) (.neg (.con (.int 1))))) (.bi .all [.comp [4, 5] (.tup [.var 4, .var 5]) (.zip [.var 2, .var 3]) (.con (.bl true)) (.cmp .le (.var 4) (.var 5))]))]
def b_is_as_even : List S := [.ex (.call 5 [.var 0]), .ex (.call 6 [.var 0, .var 1]), .ret (.call 9 [.var 0, .var 1])]
def b_fits_counts : List S := [.ret (.and (.call 3 [.var 0, .con (.int 1), .con (.int (12))]) (.bi .all [.comp [1] (.var 1) (.var 0) (.con (.bl true)) (.call 1 [.var 1, .con (.int 0), .con (.int (12))])]))]
def b_need_counts : List S := [.ifs (.or (.not (.call 11 [.var 0])) (.cmp .gt (.bi .len [.var 0]) (.var 1))) [.raise 1] []]
def b_mark_counts_in : List S := [.ret (.tup [.bi .tuple [.comp [1] (.var 1) (.var 0) (.con (.bl true)) (.bi .sum [.var 1])], .bi .tuple [.comp [2] (.var 2) (.zipS (.var 0)) (.con (.bl true)) (.bi .sum [.var 2])]])]
def b_over_in : List S := [.ret (.bi .tuple [.comp [2] (.var 2) (.rng (.var 1)) (.con (.bl true)) (.bi .len [.comp [3] (.var 3) (.var 0) (.cmp .gt (.var 3) (.var 2)) (.con (.int 1))])])]
def b_mark_breaks_in : List S := [.asg (.var 2) (.ife (.cmp .ne (.bi .sum [.var 0]) (.bi .sum [.var 1])) (.lst [.tup [.con (.str "sum")]]) (.lst [])), .asg (.var 3) (.bi .sortedR [.var 1]), .asg (.var 4) (.comp [4] (.var 4) (.rng2 (.con (.int 1)) (.bin .add (.bi .len [.var 1]) (.con (.int 1)))) (.cmp .gt (.bi .sum [.sl (.var 3) (.con .non) (.var 4)]) (.bi .sum [.call 14 [.var 0, .var 4]])) (.var 4)), .ret (.bin .add (.var 2) (.comp [5] (.var 5) (.var 4) (.con (.bl true)) (.tup [.con (.str "columns"), .var 5])))]
def b_marked_in : List S := [.par [3, 4] [.bi .list [.var 1], .lst []], .for_ (.var 2) (.var 0) [.asg (.var 5) (.bi .sorted [.comp [8, 7] (.tup [.var 8, .var 7]) (.enum (.var 3)) (.con (.bl true)) (.tup [.neg (.var 7), .var 8])]), .asg (.var 6) (.comp [7, 8] (.tup [.var 7, .var 8]) (.sl (.var 5) (.con .non) (.var 2)) (.con (.bl true)) (.var 8)), .append 4 (.bi .tuple [.comp [8] (.var 8) (.rng (.bi .len [.var 3])) (.con (.bl true)) (.ife (.cmp .isin (.var 8) (.var 6)) (.con (.int 1)) (.con (.int 0)))]), .asg (.var 3) (.comp [7, 9] (.tup [.var 7, .var 9]) (.zip [.var 3, .ix (.var 4) (.neg (.con (.int 1)))]) (.con (.bl true)) (.bin .sub (.var 7) (.var 9)))], .ret (.ife (.cmp .eq (.call 13 [.var 4]) (.tup [.var 0, .var 1])) (.bi .tuple [.var 4]) (.con .non))]
def b_rows_with : List S := [.asg (.var 2) (.lst [.tup []]), .for_ (.var 3) (.rng (.var 0)) [.asg (.var 2) (.comp2 [4, 5] [5] (.var 4) (.var 2) (.con (.bl true)) (.var 5) (.tup [.con (.int 0), .con (.int 1)]) (.con (.bl true)) (.bin .add (.var 4) (.tup [.var 5])))], .ret (.comp [4] (.var 4) (.var 2) (.cmp .eq (.bi .sum [.var 4]) (.var 1)) (.var 4))]
def b_tables_counted : List S := [.asg (.var 2) (.dnew1 (.var 1) (.con (.int 1))), .for_ (.var 3) (.var 0) [.asg (.var 4) (.dnew), .for_ (.var 5) (.call 17 [.bi .len [.var 1], .var 3]) [.lock 2, .for_ (.tup [.var 6, .var 7]) (.ditems 2) [.asg (.var 8) (.bi .tuple [.comp [9, 10] (.tup [.var 9, .var 10]) (.zip [.var 6, .var 5]) (.con (.bl true)) (.bin .sub (.var 9) (.var 10))]), .dput 4 (.var 8) (.bin .add (.dget (.var 4) (.var 8) (.con (.int 0))) (.var 7))]], .move 2 4], .ret (.dget (.var 2) (.bin .mul (.tup [.con (.int 0)]) (.bi .len [.var 1])) (.con (.int 0)))]
def b_need_two_counts : List S := [.ex (.call 12 [.var 0, .var 2]), .ex (.call 12 [.var 1, .var 2])]
def b_turned_over : List S := [.ex (.call 12 [.var 0, .con (.int (12))]), .ex (.call 2 [.var 1, .con (.int 1), .con (.int (12))]), .ret (.call 14 [.var 0, .var 1])]
def b_can_be_marked : List S := [.ex (.call 19 [.var 0, .var 1, .con (.int (12))]), .ret (.cmp .eq (.call 15 [.var 0, .var 1]) (.lst []))]
def b_mark_table : List S := [.ex (.call 19 [.var 0, .var 1, .con (.int (12))]), .ret (.call 16 [.var 0, .var 1])]
def b_mark_break : List S := [.ex (.call 19 [.var 0, .var 1, .con (.int (12))]), .asg (.var 2) (.call 15 [.var 0, .var 1]), .ret (.ife (.cmp .ne (.var 2) (.lst [])) (.ix (.var 2) (.con (.int 0))) (.con .non))]
def b_is_mark_break : List S := [.ex (.call 19 [.var 0, .var 1, .con (.int (12))]), .ifs (.or (.not (.call 3 [.var 2, .con (.int 1), .con (.int 2)])) (.not (.isi .str (.ix (.var 2) (.con (.int 0)))))) [.ret (.con (.bl false))] [], .ifs (.and (.cmp .eq (.bi .len [.var 2]) (.con (.int 2))) (.not (.call 1 [.ix (.var 2) (.con (.int 1)), .con (.int 1), .bi .len [.var 1]]))) [.ret (.con (.bl false))] [], .ret (.cmp .isin (.var 2) (.call 15 [.var 0, .var 1]))]
def b_count_mark_tables : List S := [.ex (.call 19 [.var 0, .var 1, .con (.int (6))]), .ret (.call 18 [.var 0, .var 1])]
def b__law_cup : List S := [.asg (.var 1) (.bi .abs [.ix (.bin .add (.bi .list [.var 0]) (.lst [.con (.int 0)])) (.con (.int 0))]), .ret (.lst [.ife (.cmp .ge (.var 1) (.bin .pow (.con (.int 10)) (.con (.int 18)))) (.bin .fdiv (.var 1) (.con (.int 73))) (.con (.int 0)), .bin .add (.bin .mod (.bi .int [.bin .add (.bin .mul (.var 1) (.con (.int 283))) (.con (.int 3907))]) (.con (.int 2077503167))) (.con (.int 167))])]
def b__law_roll : List S := [.ifs (.cmp .gt (.ix (.var 0) (.con (.int 0))) (.con (.int 0))) [.asg (.var 3) (.bin .mod (.bi .int [.ix (.var 0) (.con (.int 0))]) (.var 1)), .asg (.ix (.var 0) (.con (.int 0))) (.bin .fdiv (.ix (.var 0) (.con (.int 0))) (.var 1)), .ret (.var 3)] [], .asg (.ix (.var 0) (.con (.int 1))) (.bin .mod (.bi .int [.bin .add (.bin .mul (.ix (.var 0) (.con (.int 1))) (.con (.int 31051))) (.con (.int 7993))]) (.con (.int 2147483543))), .asg (.var 2) (.bin .mod (.bi .int [.bin .mul (.ix (.var 0) (.con (.int 1))) (.bin .add (.ix (.var 0) (.con (.int 1))) (.con (.int 229)))]) (.con (.int 2147483587))), .ret (.bin .mod (.bi .int [.bin .fdiv (.var 2) (.con (.int 821))]) (.var 1))]
def b__law_some : List S := [.ret (.ix (.var 1) (.call 27 [.var 0, .bi .len [.var 1]]))]
def b__law_sort : List S := [.ifs (.or (.cmp .is (.var 0) (.con .non)) (.isi .bool (.var 0))) [.ret (.ife (.cmp .is (.var 0) (.con .non)) (.con (.int 0)) (.con (.int 1)))] [], .ifs (.or (.isi .int (.var 0)) (.isi .str (.var 0))) [.ret (.ife (.isi .int (.var 0)) (.con (.int 2)) (.con (.int 3)))] [], .ret (.ife (.isi .tuple (.var 0)) (.con (.int 4)) (.ife (.isi .list (.var 0)) (.con (.int 5)) (.con (.int 6))))]
def b__law_like : List S := [.asg (.var 2) (.call 29 [.var 1]), .ifs (.or (.cmp .ne (.call 29 [.var 0]) (.var 2)) (.cmp .eq (.var 2) (.con (.int 6)))) [.ret (.con (.bl false))] [], .ifs (.cmp .isin (.var 2) (.tup [.con (.int 4), .con (.int 5)])) [.ret (.and (.cmp .eq (.bi .len [.var 0]) (.bi .len [.var 1])) (.cmp .eq (.comp [3, 4] (.tup [.var 3, .var 4]) (.zip [.var 0, .var 1]) (.not (.call 30 [.var 3, .var 4])) (.con (.int 1))) (.lst [])))] [], .ret (.cmp .eq (.var 0) (.var 1))]
def b__law_falling : List S := [.ret (.bi .tuple [.bi .sortedR [.var 0]])]
def b__law_evener : List S := [.asg (.var 3) (.bi .list [.var 1]), .for_ (.var 4) (.rng (.var 2)) [.par [5, 6] [.call 27 [.var 0, .bi .len [.var 3]], .call 27 [.var 0, .bi .len [.var 3]]], .ifs (.cmp .gt (.ix (.var 3) (.var 5)) (.ix (.var 3) (.var 6))) [.asg (.var 7) (.bin .add (.con (.int 1)) (.call 27 [.var 0, .bin .sub (.ix (.var 3) (.var 5)) (.ix (.var 3) (.var 6))])), .asg (.tup [.ix (.var 3) (.var 5), .ix (.var 3) (.var 6)]) (.tup [.bin .sub (.ix (.var 3) (.var 5)) (.var 7), .bin .add (.ix (.var 3) (.var 6)) (.var 7)])] []], .ret (.bi .tuple [.var 3])]
def b__law_bent : List S := [.ifs (.or (.not (.isi .tuple (.var 1))) (.or (.cmp .eq (.var 1) (.tup [])) (.cmp .eq (.call 27 [.var 0, .con (.int 8)]) (.con (.int 0))))) [.asg (.var 2) (.lst [.con .non, .con (.bl true), .con (.bl false), .con (.int 0), .con (.int 1), .con (.int 2), .con (.int 5), .neg (.con (.int 1)), .con (.str ""), .tup [.con (.str "sum")], .tup [.con (.int 0), .con (.int 1)], .con (.int 2), .tup [], .lst []]), .ifs (.cmp .eq (.call 29 [.var 1]) (.con (.int 2))) [.asg (.var 2) (.bin .add (.var 2) (.lst [.bin .add (.var 1) (.con (.int 1)), .bin .add (.var 1) (.con (.int 1)), .bin .sub (.var 1) (.con (.int 1))]))] [], .ret (.call 28 [.var 0, .var 2])] [], .par [3, 4] [.call 27 [.var 0, .bi .len [.var 1]], .call 27 [.var 0, .con (.int 12)]], .ifs (.cmp .eq (.var 4) (.con (.int 0))) [.ret (.bin .add (.sl (.var 1) (.con .non) (.var 3)) (.sl (.var 1) (.bin .add (.var 3) (.con (.int 1))) (.con .non)))] [], .ifs (.cmp .eq (.var 4) (.con (.int 1))) [.ret (.bin .add (.sl (.var 1) (.con .non) (.bin .add (.var 3) (.con (.int 1)))) (.sl (.var 1) (.var 3) (.con .non)))] [], .ifs (.cmp .eq (.var 4) (.con (.int 2))) [.ret (.bi .list [.var 1])] [], .ifs (.cmp .eq (.var 4) (.con (.int 3))) [.ret (.rev (.var 1))] [], .ret (.bin .add (.bin .add (.sl (.var 1) (.con .non) (.var 3)) (.tup [.call 33 [.var 0, .ix (.var 1) (.var 3)]])) (.sl (.var 1) (.bin .add (.var 3) (.con (.int 1))) (.con .non)))]
def b__law_marks : List S := [.par [6, 7] [.bin .add (.con (.int 1)) (.call 27 [.var 0, .con (.int 9)]), .bin .add (.con (.int 1)) (.call 27 [.var 0, .var 1])], .asg (.var 3) (.bin .add (.con (.int 1)) (.call 27 [.var 0, .var 2])), .asg (.var 4) (.lst []), .for_ (.var 5) (.rng (.var 7)) [.append 4 (.bi .tuple [.comp [8] (.var 8) (.rng (.var 3)) (.con (.bl true)) (.ife (.cmp .lt (.call 27 [.var 0, .con (.int 10)]) (.var 6)) (.con (.int 1)) (.con (.int 0)))])], .ret (.bi .tuple [.var 4])]
def b__law_counts_of : List S := [.asg (.var 1) (.lst []), .for_ (.var 2) (.rng (.bi .len [.ix (.var 0) (.con (.int 0))])) [.append 1 (.bi .sum [.comp [3] (.var 3) (.var 0) (.con (.bl true)) (.ix (.var 3) (.var 2))])], .ret (.tup [.bi .tuple [.comp [3] (.var 3) (.var 0) (.con (.bl true)) (.bi .sum [.var 3])], .bi .tuple [.var 1]])]
def b__law_breaks : List S := [.par [3, 4] [.lst [], .call 31 [.var 1]], .ifs (.cmp .ne (.bi .sum [.var 0]) (.bi .sum [.var 1])) [.append 3 (.tup [.con (.str "sum")])] [], .for_ (.var 2) (.rng2 (.con (.int 1)) (.bin .add (.bi .len [.var 1]) (.con (.int 1)))) [.ifs (.cmp .gt (.bi .sum [.sl (.var 4) (.con .non) (.var 2)]) (.bi .sum [.comp [5] (.var 5) (.var 0) (.con (.bl true)) (.bi .min2 [.var 5, .var 2])])) [.append 3 (.tup [.con (.str "columns"), .var 2])] []], .ret (.var 3)]
def b__law_all_rows : List S := [.asg (.var 1) (.lst [.tup []]), .for_ (.var 2) (.rng (.var 0)) [.asg (.var 3) (.lst []), .for_ (.var 4) (.var 1) [.asg (.var 3) (.bin .add (.var 3) (.lst [.bin .add (.var 4) (.tup [.con (.int 0)]), .bin .add (.var 4) (.tup [.con (.int 1)])]))], .asg (.var 1) (.var 3)], .ret (.var 1)]
def b__law_count : List S := [.asg (.var 2) (.dnew1 (.var 0) (.con (.int 1))), .for_ (.var 3) (.var 1) [.asg (.var 4) (.dnew), .for_ (.var 5) (.call 37 [.bi .len [.var 0]]) [.ifs (.cmp .eq (.bi .sum [.var 5]) (.var 3)) [.lock 2, .for_ (.var 6) (.dkeys 2) [.asg (.var 7) (.bi .tuple [.comp [8, 9] (.tup [.var 8, .var 9]) (.zip [.var 6, .var 5]) (.con (.bl true)) (.bin .sub (.var 8) (.var 9))]), .dput 4 (.var 7) (.bin .add (.dget (.var 4) (.var 7) (.con (.int 0))) (.dix (.var 2) (.var 6)))]] []], .move 2 4], .ret (.dget (.var 2) (.bin .mul (.tup [.con (.int 0)]) (.bi .len [.var 0])) (.con (.int 0)))]
def b__law_two : List S := [.asg (.var 3) (.call 27 [.var 0, .con (.int 3)]), .asg (.tup [.var 5, .var 6]) (.call 35 [.call 34 [.var 0, .var 1, .var 2]]), .ifs (.cmp .eq (.var 3) (.con (.int 1))) [.ret (.tup [.var 5, .var 6])] [], .asg (.var 4) (.bi .list [.var 6]), .par [7, 8] [.call 27 [.var 0, .bi .len [.var 4]], .call 27 [.var 0, .bi .len [.var 4]]], .ifs (.and (.cmp .eq (.var 3) (.con (.int 0))) (.and (.cmp .gt (.ix (.var 4) (.var 7)) (.con (.int 0))) (.cmp .lt (.ix (.var 4) (.var 8)) (.con (.int 12))))) [.asg (.tup [.ix (.var 4) (.var 7), .ix (.var 4) (.var 8)]) (.tup [.bin .sub (.ix (.var 4) (.var 7)) (.con (.int 1)), .bin .add (.ix (.var 4) (.var 8)) (.con (.int 1))])] [], .ifs (.cmp .eq (.var 3) (.con (.int 2))) [.asg (.var 4) (.comp [9] (.var 9) (.var 4) (.con (.bl true)) (.bi .min2 [.con (.int 12), .call 27 [.var 0, .bin .add (.bi .len [.var 5]) (.con (.int 2))]]))] [], .ret (.tup [.var 5, .bi .tuple [.var 4]])]
def b__law_right : List S := [.asg (.var 3) (.call 36 [.var 1, .var 2]), .asg (.var 4) (.call 23 [.var 1, .var 2]), .ifs (.not (.call 30 [.lst [.call 21 [.var 1, .var 2], .cmp .is (.var 4) (.con .non), .cmp .isn (.call 22 [.var 1, .var 2]) (.con .non)], .bin .mul (.lst [.cmp .eq (.var 3) (.lst [])]) (.con (.int 3))])) [.ret (.con (.bl false))] [], .ifs (.and (.cmp .isn (.var 4) (.con .non)) (.cmp .notin (.var 4) (.var 3))) [.ret (.con (.bl false))] [], .asg (.var 5) (.bin .add (.sl (.var 3) (.con .non) (.con (.int 4))) (.lst [.tup [.con (.str "sum")], .tup [.con (.str "columns"), .con (.int 1)], .tup [.con (.str "columns"), .bi .len [.var 2]], .tup [.con (.str "columns"), .bin .add (.bi .len [.var 2]) (.con (.int 1))], .tup [.con (.str "columns"), .con (.int 0)], .tup [.con (.str "columns"), .con (.bl true)], .tup [.con (.str "columns")]])), .asg (.var 5) (.bin .add (.var 5) (.lst [.tup [.con (.str "columns"), .con (.int 1), .con (.int 1)], .tup [.con (.str "rows"), .con (.int 1)], .lst [.con (.str "sum")], .tup [.con (.str "sum"), .con (.int 1)], .con .non, .tup [], .con (.int 5), .con (.str "sum"), .tup [.con (.int 1), .con (.int 2)], .tup [.con .non], .call 33 [.var 0, .tup [.con (.str "columns"), .con (.int 1)]]])), .for_ (.var 6) (.var 5) [.asg (.var 7) (.and (.isi .tuple (.var 6)) (.and (.cmp .eq (.comp [8] (.var 8) (.sl (.var 6) (.con (.int 1)) (.con .non)) (.cmp .ne (.call 29 [.var 8]) (.con (.int 2))) (.var 8)) (.lst [])) (.cmp .isin (.var 6) (.var 3)))), .ifs (.not (.call 30 [.call 24 [.var 1, .var 2, .var 6], .var 7])) [.ret (.con (.bl false))] []], .ifs (.not (.call 30 [.call 21 [.var 2, .var 1], .cmp .eq (.var 3) (.lst [])])) [.ret (.con (.bl false))] [], .ifs (.or (.cmp .gt (.bi .max1 [.var 1]) (.bi .len [.var 2])) (.cmp .ne (.bi .sum [.var 1]) (.bi .sum [.var 2]))) [.ret (.cmp .ne (.var 3) (.lst []))] [], .ret (.cmp .eq (.call 10 [.var 2, .call 20 [.var 1, .bi .len [.var 2]]]) (.cmp .eq (.var 3) (.lst [])))]
def b_law : List S := [.cupS 1 (.call 26 [.var 0]), .asg (.var 2) (.lst [.call 21 [.tup [.con (.int 2), .con (.int 1)], .tup [.con (.int 2), .con (.int 1)]], .call 21 [.tup [.con (.int 2), .con (.int 1)], .tup [.con (.int 3), .con (.int 0)]], .call 23 [.tup [.con (.int 2), .con (.int 1)], .tup [.con (.int 3), .con (.int 0)]], .call 23 [.tup [.con (.int 1)], .tup [.con (.int 0)]], .call 23 [.tup [.con (.int 1)], .tup [.con (.int 1)]]]), .asg (.var 2) (.bin .add (.var 2) (.lst [.call 24 [.tup [.con (.int 2), .con (.int 1)], .tup [.con (.int 3), .con (.int 0)], .tup [.con (.str "columns"), .con (.int 2)]], .call 21 [.tup [.con (.int 2), .con (.int 1)], .tup [.con (.int 0), .con (.int 3)]], .call 24 [.tup [.con (.int 1)], .tup [.con (.int 1), .con (.int 1)], .tup [.con (.str "sum")]]])), .ifs (.not (.call 30 [.var 2, .lst [.con (.bl true), .con (.bl false), .tup [.con (.str "columns"), .con (.int 1)], .tup [.con (.str "sum")], .con .non, .con (.bl false), .con (.bl false), .con (.bl true)]])) [.ret (.con (.bl false))] [], .for_ (.tup [.var 6, .var 7]) (.tup [.tup [.con (.int 2), .con (.int 2)], .tup [.con (.int 3), .con (.int 4)], .tup [.con (.int 6), .con (.int 5)], .tup [.con (.int 12), .con (.int 12)]]) [.for_ (.var 8) (.rng (.con (.int 3))) [.asg (.tup [.var 3, .var 4]) (.call 39 [.var 1, .var 6, .var 7]), .ifs (.not (.call 40 [.var 1, .var 3, .var 4])) [.ret (.con (.bl false))] []]], .asg (.var 3) (.bi .tuple [.comp [8] (.var 8) (.rng (.bin .add (.con (.int 1)) (.call 27 [.var 1, .con (.int 4)]))) (.con (.bl true)) (.call 27 [.var 1, .con (.int 5)])]), .asg (.var 4) (.bi .tuple [.comp [8] (.var 8) (.rng (.bin .add (.con (.int 1)) (.call 27 [.var 1, .con (.int 4)]))) (.con (.bl true)) (.call 27 [.var 1, .con (.int 5)])]), .ifs (.not (.call 30 [.lst [.call 21 [.var 3, .var 4], .cmp .gt (.call 25 [.var 3, .var 4]) (.con (.int 0))], .bin .mul (.lst [.cmp .gt (.call 38 [.var 3, .var 4]) (.con (.int 0))]) (.con (.int 2))])) [.ret (.con (.bl false))] [], .asg (.var 5) (.call 34 [.var 1, .con (.int 8), .con (.int 8)]), .asg (.tup [.var 3, .var 4]) (.call 35 [.var 5]), .ret (.cmp .is (.call 21 [.var 3, .call 32 [.var 1, .var 4, .bin .add (.con (.int 1)) (.call 27 [.var 1, .con (.int 4)])]]) (.con (.bl true)))]
def dfs : List Df := [⟨1, 1, b_is_integer⟩, ⟨3, 3, b_is_whole⟩, ⟨3, 3, b_need_whole⟩, ⟨3, 3, b_is_tuple_of⟩, ⟨1, 2, b_fits_row⟩, ⟨1, 1, b_need_row⟩, ⟨2, 2, b_need_as_long⟩, ⟨1, 1, b_falling⟩, ⟨1, 4, b_fronts_in⟩, ⟨2, 6, b_is_as_even_in⟩, ⟨2, 2, b_is_as_even⟩, ⟨1, 2, b_fits_counts⟩, ⟨2, 2, b_need_counts⟩, ⟨1, 3, b_mark_counts_in⟩, ⟨2, 4, b_over_in⟩, ⟨2, 6, b_mark_breaks_in⟩, ⟨2, 10, b_marked_in⟩, ⟨2, 6, b_rows_with⟩, ⟨2, 11, b_tables_counted⟩, ⟨3, 3, b_need_two_counts⟩, ⟨2, 2, b_turned_over⟩, ⟨2, 2, b_can_be_marked⟩, ⟨2, 2, b_mark_table⟩, ⟨2, 3, b_mark_break⟩, ⟨3, 3, b_is_mark_break⟩, ⟨2, 2, b_count_mark_tables⟩, ⟨1, 2, b__law_cup⟩, ⟨2, 4, b__law_roll⟩, ⟨2, 2, b__law_some⟩, ⟨1, 1, b__law_sort⟩, ⟨2, 5, b__law_like⟩, ⟨1, 1, b__law_falling⟩, ⟨3, 8, b__law_evener⟩, ⟨2, 5, b__law_bent⟩, ⟨3, 9, b__law_marks⟩, ⟨1, 4, b__law_counts_of⟩, ⟨2, 6, b__law_breaks⟩, ⟨1, 5, b__law_all_rows⟩, ⟨2, 10, b__law_count⟩, ⟨3, 10, b__law_two⟩, ⟨3, 9, b__law_right⟩, ⟨1, 9, b_law⟩]
def tb : Nat → Option Df := fun i => dfs[i]?
theorem call_eq {P : Par} {n i : Nat} {vs : List D} {c : Cup} {d : Df} (h : tb i = some d) : callF tb P (n + 1) i vs c = runB P (callF tb P n) d vs c := by
  show (match tb i with | some d => runB P (callF tb P n) d vs c | none => .bad) = _
  rw [h]
theorem r_is_integer {P : Par} {n : Nat} {c : Cup} {v0 : D} : callF tb P (n + 1) 0 [v0] c = fin c (execs P (callF tb P n) [.ret (.and (.isi .int (.var 0)) (.not (.isi .bool (.var 0))))] ⟨[some (.leaf v0)], c⟩) := by
  rw [call_eq (d := ⟨1, 1, b_is_integer⟩) rfl]
  exact run_fin rfl rfl
theorem r_is_whole {P : Par} {n : Nat} {c : Cup} {v0 v1 v2 : D} : callF tb P (n + 1) 1 [v0, v1, v2] c = fin c (execs P (callF tb P n) [.ret (.and (.call 0 [.var 0]) (.chain .le .le (.var 1) (.var 0) (.var 2)))] ⟨[some (.leaf v0), some (.leaf v1), some (.leaf v2)], c⟩) := by
  rw [call_eq (d := ⟨3, 3, b_is_whole⟩) rfl]
  exact run_fin rfl rfl
theorem r_need_whole {P : Par} {n : Nat} {c : Cup} {v0 v1 v2 : D} : callF tb P (n + 1) 2 [v0, v1, v2] c = fin c (execs P (callF tb P n) [.ifs (.not (.call 1 [.var 0, .var 1, .var 2])) [.raise 2] []] ⟨[some (.leaf v0), some (.leaf v1), some (.leaf v2)], c⟩) := by
  rw [call_eq (d := ⟨3, 3, b_need_whole⟩) rfl]
  exact run_fin rfl rfl
theorem r_is_tuple_of {P : Par} {n : Nat} {c : Cup} {v0 v1 v2 : D} : callF tb P (n + 1) 3 [v0, v1, v2] c = fin c (execs P (callF tb P n) [.ret (.and (.isi .tuple (.var 0)) (.chain .le .le (.var 1) (.bi .len [.var 0]) (.var 2)))] ⟨[some (.leaf v0), some (.leaf v1), some (.leaf v2)], c⟩) := by
  rw [call_eq (d := ⟨3, 3, b_is_tuple_of⟩) rfl]
  exact run_fin rfl rfl
theorem r_fits_row {P : Par} {n : Nat} {c : Cup} {v0 : D} : callF tb P (n + 1) 4 [v0] c = fin c (execs P (callF tb P n) [.ret (.and (.call 3 [.var 0, .con (.int 1), .con (.int (12))]) (.bi .all [.comp [1] (.var 1) (.var 0) (.con (.bl true)) (.call 1 [.var 1, .neg (.con (.int (1000000))), .con (.int (1000000))])]))] ⟨[some (.leaf v0), none], c⟩) := by
  rw [call_eq (d := ⟨1, 2, b_fits_row⟩) rfl]
  exact run_fin rfl rfl
theorem r_need_row {P : Par} {n : Nat} {c : Cup} {v0 : D} : callF tb P (n + 1) 5 [v0] c = fin c (execs P (callF tb P n) [.ifs (.not (.call 4 [.var 0])) [.raise 1] []] ⟨[some (.leaf v0)], c⟩) := by
  rw [call_eq (d := ⟨1, 1, b_need_row⟩) rfl]
  exact run_fin rfl rfl
theorem r_need_as_long {P : Par} {n : Nat} {c : Cup} {v0 v1 : D} : callF tb P (n + 1) 6 [v0, v1] c = fin c (execs P (callF tb P n) [.ifs (.or (.not (.call 4 [.var 1])) (.cmp .ne (.bi .len [.var 1]) (.bi .len [.var 0]))) [.raise 1] []] ⟨[some (.leaf v0), some (.leaf v1)], c⟩) := by
  rw [call_eq (d := ⟨2, 2, b_need_as_long⟩) rfl]
  exact run_fin rfl rfl
theorem r_falling {P : Par} {n : Nat} {c : Cup} {v0 : D} : callF tb P (n + 1) 7 [v0] c = fin c (execs P (callF tb P n) [.ret (.bi .tuple [.bi .sortedR [.var 0]])] ⟨[some (.leaf v0)], c⟩) := by
  rw [call_eq (d := ⟨1, 1, b_falling⟩) rfl]
  exact run_fin rfl rfl
theorem r_fronts_in {P : Par} {n : Nat} {c : Cup} {v0 : D} : callF tb P (n + 1) 8 [v0] c = fin c (execs P (callF tb P n) [.par [2, 3] [.lst [], .con (.int 0)], .for_ (.var 1) (.call 7 [.var 0]) [.asg (.var 3) (.bin .add (.var 3) (.var 1)), .append 2 (.var 3)], .ret (.bi .tuple [.var 2])] ⟨[some (.leaf v0), none, none, none], c⟩) := by
  rw [call_eq (d := ⟨1, 4, b_fronts_in⟩) rfl]
  exact run_fin rfl rfl
theorem r_is_as_even_in {P : Par} {n : Nat} {c : Cup} {v0 v1 : D} : callF tb P (n + 1) 9 [v0, v1] c = fin c (execs P (callF tb P n) [.par [2, 3] [.call 8 [.var 0], .call 8 [.var 1]], .ret (.and (.cmp .eq (.ix (.var 2) (.neg (.con (.int 1)))) (.ix (.var 3) (.neg (.con (.int 1))))) (.bi .all [.comp [4, 5] (.tup [.var 4, .var 5]) (.zip [.var 2, .var 3]) (.con (.bl true)) (.cmp .le (.var 4) (.var 5))]))] ⟨[some (.leaf v0), some (.leaf v1), none, none, none, none], c⟩) := by
  rw [call_eq (d := ⟨2, 6, b_is_as_even_in⟩) rfl]
  exact run_fin rfl rfl
theorem r_is_as_even {P : Par} {n : Nat} {c : Cup} {v0 v1 : D} : callF tb P (n + 1) 10 [v0, v1] c = fin c (execs P (callF tb P n) [.ex (.call 5 [.var 0]), .ex (.call 6 [.var 0, .var 1]), .ret (.call 9 [.var 0, .var 1])] ⟨[some (.leaf v0), some (.leaf v1)], c⟩) := by
  rw [call_eq (d := ⟨2, 2, b_is_as_even⟩) rfl]
  exact run_fin rfl rfl
theorem r_fits_counts {P : Par} {n : Nat} {c : Cup} {v0 : D} : callF tb P (n + 1) 11 [v0] c = fin c (execs P (callF tb P n) [.ret (.and (.call 3 [.var 0, .con (.int 1), .con (.int (12))]) (.bi .all [.comp [1] (.var 1) (.var 0) (.con (.bl true)) (.call 1 [.var 1, .con (.int 0), .con (.int (12))])]))] ⟨[some (.leaf v0), none], c⟩) := by
  rw [call_eq (d := ⟨1, 2, b_fits_counts⟩) rfl]
  exact run_fin rfl rfl
theorem r_need_counts {P : Par} {n : Nat} {c : Cup} {v0 v1 : D} : callF tb P (n + 1) 12 [v0, v1] c = fin c (execs P (callF tb P n) [.ifs (.or (.not (.call 11 [.var 0])) (.cmp .gt (.bi .len [.var 0]) (.var 1))) [.raise 1] []] ⟨[some (.leaf v0), some (.leaf v1)], c⟩) := by
  rw [call_eq (d := ⟨2, 2, b_need_counts⟩) rfl]
  exact run_fin rfl rfl
theorem r_mark_counts_in {P : Par} {n : Nat} {c : Cup} {v0 : D} : callF tb P (n + 1) 13 [v0] c = fin c (execs P (callF tb P n) [.ret (.tup [.bi .tuple [.comp [1] (.var 1) (.var 0) (.con (.bl true)) (.bi .sum [.var 1])], .bi .tuple [.comp [2] (.var 2) (.zipS (.var 0)) (.con (.bl true)) (.bi .sum [.var 2])]])] ⟨[some (.leaf v0), none, none], c⟩) := by
  rw [call_eq (d := ⟨1, 3, b_mark_counts_in⟩) rfl]
  exact run_fin rfl rfl
theorem r_over_in {P : Par} {n : Nat} {c : Cup} {v0 v1 : D} : callF tb P (n + 1) 14 [v0, v1] c = fin c (execs P (callF tb P n) [.ret (.bi .tuple [.comp [2] (.var 2) (.rng (.var 1)) (.con (.bl true)) (.bi .len [.comp [3] (.var 3) (.var 0) (.cmp .gt (.var 3) (.var 2)) (.con (.int 1))])])] ⟨[some (.leaf v0), some (.leaf v1), none, none], c⟩) := by
  rw [call_eq (d := ⟨2, 4, b_over_in⟩) rfl]
  exact run_fin rfl rfl
theorem r_mark_breaks_in {P : Par} {n : Nat} {c : Cup} {v0 v1 : D} : callF tb P (n + 1) 15 [v0, v1] c = fin c (execs P (callF tb P n) [.asg (.var 2) (.ife (.cmp .ne (.bi .sum [.var 0]) (.bi .sum [.var 1])) (.lst [.tup [.con (.str "sum")]]) (.lst [])), .asg (.var 3) (.bi .sortedR [.var 1]), .asg (.var 4) (.comp [4] (.var 4) (.rng2 (.con (.int 1)) (.bin .add (.bi .len [.var 1]) (.con (.int 1)))) (.cmp .gt (.bi .sum [.sl (.var 3) (.con .non) (.var 4)]) (.bi .sum [.call 14 [.var 0, .var 4]])) (.var 4)), .ret (.bin .add (.var 2) (.comp [5] (.var 5) (.var 4) (.con (.bl true)) (.tup [.con (.str "columns"), .var 5])))] ⟨[some (.leaf v0), some (.leaf v1), none, none, none, none], c⟩) := by
  rw [call_eq (d := ⟨2, 6, b_mark_breaks_in⟩) rfl]
  exact run_fin rfl rfl
theorem r_marked_in {P : Par} {n : Nat} {c : Cup} {v0 v1 : D} : callF tb P (n + 1) 16 [v0, v1] c = fin c (execs P (callF tb P n) [.par [3, 4] [.bi .list [.var 1], .lst []], .for_ (.var 2) (.var 0) [.asg (.var 5) (.bi .sorted [.comp [8, 7] (.tup [.var 8, .var 7]) (.enum (.var 3)) (.con (.bl true)) (.tup [.neg (.var 7), .var 8])]), .asg (.var 6) (.comp [7, 8] (.tup [.var 7, .var 8]) (.sl (.var 5) (.con .non) (.var 2)) (.con (.bl true)) (.var 8)), .append 4 (.bi .tuple [.comp [8] (.var 8) (.rng (.bi .len [.var 3])) (.con (.bl true)) (.ife (.cmp .isin (.var 8) (.var 6)) (.con (.int 1)) (.con (.int 0)))]), .asg (.var 3) (.comp [7, 9] (.tup [.var 7, .var 9]) (.zip [.var 3, .ix (.var 4) (.neg (.con (.int 1)))]) (.con (.bl true)) (.bin .sub (.var 7) (.var 9)))], .ret (.ife (.cmp .eq (.call 13 [.var 4]) (.tup [.var 0, .var 1])) (.bi .tuple [.var 4]) (.con .non))] ⟨[some (.leaf v0), some (.leaf v1), none, none, none, none, none, none, none, none], c⟩) := by
  rw [call_eq (d := ⟨2, 10, b_marked_in⟩) rfl]
  exact run_fin rfl rfl
theorem r_rows_with {P : Par} {n : Nat} {c : Cup} {v0 v1 : D} : callF tb P (n + 1) 17 [v0, v1] c = fin c (execs P (callF tb P n) [.asg (.var 2) (.lst [.tup []]), .for_ (.var 3) (.rng (.var 0)) [.asg (.var 2) (.comp2 [4, 5] [5] (.var 4) (.var 2) (.con (.bl true)) (.var 5) (.tup [.con (.int 0), .con (.int 1)]) (.con (.bl true)) (.bin .add (.var 4) (.tup [.var 5])))], .ret (.comp [4] (.var 4) (.var 2) (.cmp .eq (.bi .sum [.var 4]) (.var 1)) (.var 4))] ⟨[some (.leaf v0), some (.leaf v1), none, none, none, none], c⟩) := by
  rw [call_eq (d := ⟨2, 6, b_rows_with⟩) rfl]
  exact run_fin rfl rfl
theorem r_tables_counted {P : Par} {n : Nat} {c : Cup} {v0 v1 : D} : callF tb P (n + 1) 18 [v0, v1] c = fin c (execs P (callF tb P n) [.asg (.var 2) (.dnew1 (.var 1) (.con (.int 1))), .for_ (.var 3) (.var 0) [.asg (.var 4) (.dnew), .for_ (.var 5) (.call 17 [.bi .len [.var 1], .var 3]) [.lock 2, .for_ (.tup [.var 6, .var 7]) (.ditems 2) [.asg (.var 8) (.bi .tuple [.comp [9, 10] (.tup [.var 9, .var 10]) (.zip [.var 6, .var 5]) (.con (.bl true)) (.bin .sub (.var 9) (.var 10))]), .dput 4 (.var 8) (.bin .add (.dget (.var 4) (.var 8) (.con (.int 0))) (.var 7))]], .move 2 4], .ret (.dget (.var 2) (.bin .mul (.tup [.con (.int 0)]) (.bi .len [.var 1])) (.con (.int 0)))] ⟨[some (.leaf v0), some (.leaf v1), none, none, none, none, none, none, none, none, none], c⟩) := by
  rw [call_eq (d := ⟨2, 11, b_tables_counted⟩) rfl]
  exact run_fin rfl rfl
theorem r_need_two_counts {P : Par} {n : Nat} {c : Cup} {v0 v1 v2 : D} : callF tb P (n + 1) 19 [v0, v1, v2] c = fin c (execs P (callF tb P n) [.ex (.call 12 [.var 0, .var 2]), .ex (.call 12 [.var 1, .var 2])] ⟨[some (.leaf v0), some (.leaf v1), some (.leaf v2)], c⟩) := by
  rw [call_eq (d := ⟨3, 3, b_need_two_counts⟩) rfl]
  exact run_fin rfl rfl
theorem r_turned_over {P : Par} {n : Nat} {c : Cup} {v0 v1 : D} : callF tb P (n + 1) 20 [v0, v1] c = fin c (execs P (callF tb P n) [.ex (.call 12 [.var 0, .con (.int (12))]), .ex (.call 2 [.var 1, .con (.int 1), .con (.int (12))]), .ret (.call 14 [.var 0, .var 1])] ⟨[some (.leaf v0), some (.leaf v1)], c⟩) := by
  rw [call_eq (d := ⟨2, 2, b_turned_over⟩) rfl]
  exact run_fin rfl rfl
theorem r_can_be_marked {P : Par} {n : Nat} {c : Cup} {v0 v1 : D} : callF tb P (n + 1) 21 [v0, v1] c = fin c (execs P (callF tb P n) [.ex (.call 19 [.var 0, .var 1, .con (.int (12))]), .ret (.cmp .eq (.call 15 [.var 0, .var 1]) (.lst []))] ⟨[some (.leaf v0), some (.leaf v1)], c⟩) := by
  rw [call_eq (d := ⟨2, 2, b_can_be_marked⟩) rfl]
  exact run_fin rfl rfl
theorem r_mark_table {P : Par} {n : Nat} {c : Cup} {v0 v1 : D} : callF tb P (n + 1) 22 [v0, v1] c = fin c (execs P (callF tb P n) [.ex (.call 19 [.var 0, .var 1, .con (.int (12))]), .ret (.call 16 [.var 0, .var 1])] ⟨[some (.leaf v0), some (.leaf v1)], c⟩) := by
  rw [call_eq (d := ⟨2, 2, b_mark_table⟩) rfl]
  exact run_fin rfl rfl
theorem r_mark_break {P : Par} {n : Nat} {c : Cup} {v0 v1 : D} : callF tb P (n + 1) 23 [v0, v1] c = fin c (execs P (callF tb P n) [.ex (.call 19 [.var 0, .var 1, .con (.int (12))]), .asg (.var 2) (.call 15 [.var 0, .var 1]), .ret (.ife (.cmp .ne (.var 2) (.lst [])) (.ix (.var 2) (.con (.int 0))) (.con .non))] ⟨[some (.leaf v0), some (.leaf v1), none], c⟩) := by
  rw [call_eq (d := ⟨2, 3, b_mark_break⟩) rfl]
  exact run_fin rfl rfl
theorem r_is_mark_break {P : Par} {n : Nat} {c : Cup} {v0 v1 v2 : D} : callF tb P (n + 1) 24 [v0, v1, v2] c = fin c (execs P (callF tb P n) [.ex (.call 19 [.var 0, .var 1, .con (.int (12))]), .ifs (.or (.not (.call 3 [.var 2, .con (.int 1), .con (.int 2)])) (.not (.isi .str (.ix (.var 2) (.con (.int 0)))))) [.ret (.con (.bl false))] [], .ifs (.and (.cmp .eq (.bi .len [.var 2]) (.con (.int 2))) (.not (.call 1 [.ix (.var 2) (.con (.int 1)), .con (.int 1), .bi .len [.var 1]]))) [.ret (.con (.bl false))] [], .ret (.cmp .isin (.var 2) (.call 15 [.var 0, .var 1]))] ⟨[some (.leaf v0), some (.leaf v1), some (.leaf v2)], c⟩) := by
  rw [call_eq (d := ⟨3, 3, b_is_mark_break⟩) rfl]
  exact run_fin rfl rfl
theorem r_count_mark_tables {P : Par} {n : Nat} {c : Cup} {v0 v1 : D} : callF tb P (n + 1) 25 [v0, v1] c = fin c (execs P (callF tb P n) [.ex (.call 19 [.var 0, .var 1, .con (.int (6))]), .ret (.call 18 [.var 0, .var 1])] ⟨[some (.leaf v0), some (.leaf v1)], c⟩) := by
  rw [call_eq (d := ⟨2, 2, b_count_mark_tables⟩) rfl]
  exact run_fin rfl rfl
theorem r__law_cup {P : Par} {n : Nat} {c : Cup} {v0 : D} : callF tb P (n + 1) 26 [v0] c = fin c (execs P (callF tb P n) [.asg (.var 1) (.bi .abs [.ix (.bin .add (.bi .list [.var 0]) (.lst [.con (.int 0)])) (.con (.int 0))]), .ret (.lst [.ife (.cmp .ge (.var 1) (.bin .pow (.con (.int 10)) (.con (.int 18)))) (.bin .fdiv (.var 1) (.con (.int 73))) (.con (.int 0)), .bin .add (.bin .mod (.bi .int [.bin .add (.bin .mul (.var 1) (.con (.int 283))) (.con (.int 3907))]) (.con (.int 2077503167))) (.con (.int 167))])] ⟨[some (.leaf v0), none], c⟩) := by
  rw [call_eq (d := ⟨1, 2, b__law_cup⟩) rfl]
  exact run_fin rfl rfl
theorem r__law_roll {P : Par} {n : Nat} {c : Cup} {v0 v1 : D} : callF tb P (n + 1) 27 [v0, v1] c = fin c (execs P (callF tb P n) [.ifs (.cmp .gt (.ix (.var 0) (.con (.int 0))) (.con (.int 0))) [.asg (.var 3) (.bin .mod (.bi .int [.ix (.var 0) (.con (.int 0))]) (.var 1)), .asg (.ix (.var 0) (.con (.int 0))) (.bin .fdiv (.ix (.var 0) (.con (.int 0))) (.var 1)), .ret (.var 3)] [], .asg (.ix (.var 0) (.con (.int 1))) (.bin .mod (.bi .int [.bin .add (.bin .mul (.ix (.var 0) (.con (.int 1))) (.con (.int 31051))) (.con (.int 7993))]) (.con (.int 2147483543))), .asg (.var 2) (.bin .mod (.bi .int [.bin .mul (.ix (.var 0) (.con (.int 1))) (.bin .add (.ix (.var 0) (.con (.int 1))) (.con (.int 229)))]) (.con (.int 2147483587))), .ret (.bin .mod (.bi .int [.bin .fdiv (.var 2) (.con (.int 821))]) (.var 1))] ⟨[some (.leaf v0), some (.leaf v1), none, none], c⟩) := by
  rw [call_eq (d := ⟨2, 4, b__law_roll⟩) rfl]
  exact run_fin rfl rfl
theorem r__law_some {P : Par} {n : Nat} {c : Cup} {v0 v1 : D} : callF tb P (n + 1) 28 [v0, v1] c = fin c (execs P (callF tb P n) [.ret (.ix (.var 1) (.call 27 [.var 0, .bi .len [.var 1]]))] ⟨[some (.leaf v0), some (.leaf v1)], c⟩) := by
  rw [call_eq (d := ⟨2, 2, b__law_some⟩) rfl]
  exact run_fin rfl rfl
theorem r__law_sort {P : Par} {n : Nat} {c : Cup} {v0 : D} : callF tb P (n + 1) 29 [v0] c = fin c (execs P (callF tb P n) [.ifs (.or (.cmp .is (.var 0) (.con .non)) (.isi .bool (.var 0))) [.ret (.ife (.cmp .is (.var 0) (.con .non)) (.con (.int 0)) (.con (.int 1)))] [], .ifs (.or (.isi .int (.var 0)) (.isi .str (.var 0))) [.ret (.ife (.isi .int (.var 0)) (.con (.int 2)) (.con (.int 3)))] [], .ret (.ife (.isi .tuple (.var 0)) (.con (.int 4)) (.ife (.isi .list (.var 0)) (.con (.int 5)) (.con (.int 6))))] ⟨[some (.leaf v0)], c⟩) := by
  rw [call_eq (d := ⟨1, 1, b__law_sort⟩) rfl]
  exact run_fin rfl rfl
theorem r__law_like {P : Par} {n : Nat} {c : Cup} {v0 v1 : D} : callF tb P (n + 1) 30 [v0, v1] c = fin c (execs P (callF tb P n) [.asg (.var 2) (.call 29 [.var 1]), .ifs (.or (.cmp .ne (.call 29 [.var 0]) (.var 2)) (.cmp .eq (.var 2) (.con (.int 6)))) [.ret (.con (.bl false))] [], .ifs (.cmp .isin (.var 2) (.tup [.con (.int 4), .con (.int 5)])) [.ret (.and (.cmp .eq (.bi .len [.var 0]) (.bi .len [.var 1])) (.cmp .eq (.comp [3, 4] (.tup [.var 3, .var 4]) (.zip [.var 0, .var 1]) (.not (.call 30 [.var 3, .var 4])) (.con (.int 1))) (.lst [])))] [], .ret (.cmp .eq (.var 0) (.var 1))] ⟨[some (.leaf v0), some (.leaf v1), none, none, none], c⟩) := by
  rw [call_eq (d := ⟨2, 5, b__law_like⟩) rfl]
  exact run_fin rfl rfl
theorem r__law_falling {P : Par} {n : Nat} {c : Cup} {v0 : D} : callF tb P (n + 1) 31 [v0] c = fin c (execs P (callF tb P n) [.ret (.bi .tuple [.bi .sortedR [.var 0]])] ⟨[some (.leaf v0)], c⟩) := by
  rw [call_eq (d := ⟨1, 1, b__law_falling⟩) rfl]
  exact run_fin rfl rfl
theorem r__law_evener {P : Par} {n : Nat} {c : Cup} {v0 v1 v2 : D} : callF tb P (n + 1) 32 [v0, v1, v2] c = fin c (execs P (callF tb P n) [.asg (.var 3) (.bi .list [.var 1]), .for_ (.var 4) (.rng (.var 2)) [.par [5, 6] [.call 27 [.var 0, .bi .len [.var 3]], .call 27 [.var 0, .bi .len [.var 3]]], .ifs (.cmp .gt (.ix (.var 3) (.var 5)) (.ix (.var 3) (.var 6))) [.asg (.var 7) (.bin .add (.con (.int 1)) (.call 27 [.var 0, .bin .sub (.ix (.var 3) (.var 5)) (.ix (.var 3) (.var 6))])), .asg (.tup [.ix (.var 3) (.var 5), .ix (.var 3) (.var 6)]) (.tup [.bin .sub (.ix (.var 3) (.var 5)) (.var 7), .bin .add (.ix (.var 3) (.var 6)) (.var 7)])] []], .ret (.bi .tuple [.var 3])] ⟨[some (.leaf v0), some (.leaf v1), some (.leaf v2), none, none, none, none, none], c⟩) := by
  rw [call_eq (d := ⟨3, 8, b__law_evener⟩) rfl]
  exact run_fin rfl rfl
theorem r__law_bent {P : Par} {n : Nat} {c : Cup} {v0 v1 : D} : callF tb P (n + 1) 33 [v0, v1] c = fin c (execs P (callF tb P n) [.ifs (.or (.not (.isi .tuple (.var 1))) (.or (.cmp .eq (.var 1) (.tup [])) (.cmp .eq (.call 27 [.var 0, .con (.int 8)]) (.con (.int 0))))) [.asg (.var 2) (.lst [.con .non, .con (.bl true), .con (.bl false), .con (.int 0), .con (.int 1), .con (.int 2), .con (.int 5), .neg (.con (.int 1)), .con (.str ""), .tup [.con (.str "sum")], .tup [.con (.int 0), .con (.int 1)], .con (.int 2), .tup [], .lst []]), .ifs (.cmp .eq (.call 29 [.var 1]) (.con (.int 2))) [.asg (.var 2) (.bin .add (.var 2) (.lst [.bin .add (.var 1) (.con (.int 1)), .bin .add (.var 1) (.con (.int 1)), .bin .sub (.var 1) (.con (.int 1))]))] [], .ret (.call 28 [.var 0, .var 2])] [], .par [3, 4] [.call 27 [.var 0, .bi .len [.var 1]], .call 27 [.var 0, .con (.int 12)]], .ifs (.cmp .eq (.var 4) (.con (.int 0))) [.ret (.bin .add (.sl (.var 1) (.con .non) (.var 3)) (.sl (.var 1) (.bin .add (.var 3) (.con (.int 1))) (.con .non)))] [], .ifs (.cmp .eq (.var 4) (.con (.int 1))) [.ret (.bin .add (.sl (.var 1) (.con .non) (.bin .add (.var 3) (.con (.int 1)))) (.sl (.var 1) (.var 3) (.con .non)))] [], .ifs (.cmp .eq (.var 4) (.con (.int 2))) [.ret (.bi .list [.var 1])] [], .ifs (.cmp .eq (.var 4) (.con (.int 3))) [.ret (.rev (.var 1))] [], .ret (.bin .add (.bin .add (.sl (.var 1) (.con .non) (.var 3)) (.tup [.call 33 [.var 0, .ix (.var 1) (.var 3)]])) (.sl (.var 1) (.bin .add (.var 3) (.con (.int 1))) (.con .non)))] ⟨[some (.leaf v0), some (.leaf v1), none, none, none], c⟩) := by
  rw [call_eq (d := ⟨2, 5, b__law_bent⟩) rfl]
  exact run_fin rfl rfl
theorem r__law_marks {P : Par} {n : Nat} {c : Cup} {v0 v1 v2 : D} : callF tb P (n + 1) 34 [v0, v1, v2] c = fin c (execs P (callF tb P n) [.par [6, 7] [.bin .add (.con (.int 1)) (.call 27 [.var 0, .con (.int 9)]), .bin .add (.con (.int 1)) (.call 27 [.var 0, .var 1])], .asg (.var 3) (.bin .add (.con (.int 1)) (.call 27 [.var 0, .var 2])), .asg (.var 4) (.lst []), .for_ (.var 5) (.rng (.var 7)) [.append 4 (.bi .tuple [.comp [8] (.var 8) (.rng (.var 3)) (.con (.bl true)) (.ife (.cmp .lt (.call 27 [.var 0, .con (.int 10)]) (.var 6)) (.con (.int 1)) (.con (.int 0)))])], .ret (.bi .tuple [.var 4])] ⟨[some (.leaf v0), some (.leaf v1), some (.leaf v2), none, none, none, none, none, none], c⟩) := by
  rw [call_eq (d := ⟨3, 9, b__law_marks⟩) rfl]
  exact run_fin rfl rfl
theorem r__law_counts_of {P : Par} {n : Nat} {c : Cup} {v0 : D} : callF tb P (n + 1) 35 [v0] c = fin c (execs P (callF tb P n) [.asg (.var 1) (.lst []), .for_ (.var 2) (.rng (.bi .len [.ix (.var 0) (.con (.int 0))])) [.append 1 (.bi .sum [.comp [3] (.var 3) (.var 0) (.con (.bl true)) (.ix (.var 3) (.var 2))])], .ret (.tup [.bi .tuple [.comp [3] (.var 3) (.var 0) (.con (.bl true)) (.bi .sum [.var 3])], .bi .tuple [.var 1]])] ⟨[some (.leaf v0), none, none, none], c⟩) := by
  rw [call_eq (d := ⟨1, 4, b__law_counts_of⟩) rfl]
  exact run_fin rfl rfl
theorem r__law_breaks {P : Par} {n : Nat} {c : Cup} {v0 v1 : D} : callF tb P (n + 1) 36 [v0, v1] c = fin c (execs P (callF tb P n) [.par [3, 4] [.lst [], .call 31 [.var 1]], .ifs (.cmp .ne (.bi .sum [.var 0]) (.bi .sum [.var 1])) [.append 3 (.tup [.con (.str "sum")])] [], .for_ (.var 2) (.rng2 (.con (.int 1)) (.bin .add (.bi .len [.var 1]) (.con (.int 1)))) [.ifs (.cmp .gt (.bi .sum [.sl (.var 4) (.con .non) (.var 2)]) (.bi .sum [.comp [5] (.var 5) (.var 0) (.con (.bl true)) (.bi .min2 [.var 5, .var 2])])) [.append 3 (.tup [.con (.str "columns"), .var 2])] []], .ret (.var 3)] ⟨[some (.leaf v0), some (.leaf v1), none, none, none, none], c⟩) := by
  rw [call_eq (d := ⟨2, 6, b__law_breaks⟩) rfl]
  exact run_fin rfl rfl
theorem r__law_all_rows {P : Par} {n : Nat} {c : Cup} {v0 : D} : callF tb P (n + 1) 37 [v0] c = fin c (execs P (callF tb P n) [.asg (.var 1) (.lst [.tup []]), .for_ (.var 2) (.rng (.var 0)) [.asg (.var 3) (.lst []), .for_ (.var 4) (.var 1) [.asg (.var 3) (.bin .add (.var 3) (.lst [.bin .add (.var 4) (.tup [.con (.int 0)]), .bin .add (.var 4) (.tup [.con (.int 1)])]))], .asg (.var 1) (.var 3)], .ret (.var 1)] ⟨[some (.leaf v0), none, none, none, none], c⟩) := by
  rw [call_eq (d := ⟨1, 5, b__law_all_rows⟩) rfl]
  exact run_fin rfl rfl
theorem r__law_count {P : Par} {n : Nat} {c : Cup} {v0 v1 : D} : callF tb P (n + 1) 38 [v0, v1] c = fin c (execs P (callF tb P n) [.asg (.var 2) (.dnew1 (.var 0) (.con (.int 1))), .for_ (.var 3) (.var 1) [.asg (.var 4) (.dnew), .for_ (.var 5) (.call 37 [.bi .len [.var 0]]) [.ifs (.cmp .eq (.bi .sum [.var 5]) (.var 3)) [.lock 2, .for_ (.var 6) (.dkeys 2) [.asg (.var 7) (.bi .tuple [.comp [8, 9] (.tup [.var 8, .var 9]) (.zip [.var 6, .var 5]) (.con (.bl true)) (.bin .sub (.var 8) (.var 9))]), .dput 4 (.var 7) (.bin .add (.dget (.var 4) (.var 7) (.con (.int 0))) (.dix (.var 2) (.var 6)))]] []], .move 2 4], .ret (.dget (.var 2) (.bin .mul (.tup [.con (.int 0)]) (.bi .len [.var 0])) (.con (.int 0)))] ⟨[some (.leaf v0), some (.leaf v1), none, none, none, none, none, none, none, none], c⟩) := by
  rw [call_eq (d := ⟨2, 10, b__law_count⟩) rfl]
  exact run_fin rfl rfl
theorem r__law_two {P : Par} {n : Nat} {c : Cup} {v0 v1 v2 : D} : callF tb P (n + 1) 39 [v0, v1, v2] c = fin c (execs P (callF tb P n) [.asg (.var 3) (.call 27 [.var 0, .con (.int 3)]), .asg (.tup [.var 5, .var 6]) (.call 35 [.call 34 [.var 0, .var 1, .var 2]]), .ifs (.cmp .eq (.var 3) (.con (.int 1))) [.ret (.tup [.var 5, .var 6])] [], .asg (.var 4) (.bi .list [.var 6]), .par [7, 8] [.call 27 [.var 0, .bi .len [.var 4]], .call 27 [.var 0, .bi .len [.var 4]]], .ifs (.and (.cmp .eq (.var 3) (.con (.int 0))) (.and (.cmp .gt (.ix (.var 4) (.var 7)) (.con (.int 0))) (.cmp .lt (.ix (.var 4) (.var 8)) (.con (.int 12))))) [.asg (.tup [.ix (.var 4) (.var 7), .ix (.var 4) (.var 8)]) (.tup [.bin .sub (.ix (.var 4) (.var 7)) (.con (.int 1)), .bin .add (.ix (.var 4) (.var 8)) (.con (.int 1))])] [], .ifs (.cmp .eq (.var 3) (.con (.int 2))) [.asg (.var 4) (.comp [9] (.var 9) (.var 4) (.con (.bl true)) (.bi .min2 [.con (.int 12), .call 27 [.var 0, .bin .add (.bi .len [.var 5]) (.con (.int 2))]]))] [], .ret (.tup [.var 5, .bi .tuple [.var 4]])] ⟨[some (.leaf v0), some (.leaf v1), some (.leaf v2), none, none, none, none, none, none, none], c⟩) := by
  rw [call_eq (d := ⟨3, 10, b__law_two⟩) rfl]
  exact run_fin rfl rfl
theorem r__law_right {P : Par} {n : Nat} {c : Cup} {v0 v1 v2 : D} : callF tb P (n + 1) 40 [v0, v1, v2] c = fin c (execs P (callF tb P n) [.asg (.var 3) (.call 36 [.var 1, .var 2]), .asg (.var 4) (.call 23 [.var 1, .var 2]), .ifs (.not (.call 30 [.lst [.call 21 [.var 1, .var 2], .cmp .is (.var 4) (.con .non), .cmp .isn (.call 22 [.var 1, .var 2]) (.con .non)], .bin .mul (.lst [.cmp .eq (.var 3) (.lst [])]) (.con (.int 3))])) [.ret (.con (.bl false))] [], .ifs (.and (.cmp .isn (.var 4) (.con .non)) (.cmp .notin (.var 4) (.var 3))) [.ret (.con (.bl false))] [], .asg (.var 5) (.bin .add (.sl (.var 3) (.con .non) (.con (.int 4))) (.lst [.tup [.con (.str "sum")], .tup [.con (.str "columns"), .con (.int 1)], .tup [.con (.str "columns"), .bi .len [.var 2]], .tup [.con (.str "columns"), .bin .add (.bi .len [.var 2]) (.con (.int 1))], .tup [.con (.str "columns"), .con (.int 0)], .tup [.con (.str "columns"), .con (.bl true)], .tup [.con (.str "columns")]])), .asg (.var 5) (.bin .add (.var 5) (.lst [.tup [.con (.str "columns"), .con (.int 1), .con (.int 1)], .tup [.con (.str "rows"), .con (.int 1)], .lst [.con (.str "sum")], .tup [.con (.str "sum"), .con (.int 1)], .con .non, .tup [], .con (.int 5), .con (.str "sum"), .tup [.con (.int 1), .con (.int 2)], .tup [.con .non], .call 33 [.var 0, .tup [.con (.str "columns"), .con (.int 1)]]])), .for_ (.var 6) (.var 5) [.asg (.var 7) (.and (.isi .tuple (.var 6)) (.and (.cmp .eq (.comp [8] (.var 8) (.sl (.var 6) (.con (.int 1)) (.con .non)) (.cmp .ne (.call 29 [.var 8]) (.con (.int 2))) (.var 8)) (.lst [])) (.cmp .isin (.var 6) (.var 3)))), .ifs (.not (.call 30 [.call 24 [.var 1, .var 2, .var 6], .var 7])) [.ret (.con (.bl false))] []], .ifs (.not (.call 30 [.call 21 [.var 2, .var 1], .cmp .eq (.var 3) (.lst [])])) [.ret (.con (.bl false))] [], .ifs (.or (.cmp .gt (.bi .max1 [.var 1]) (.bi .len [.var 2])) (.cmp .ne (.bi .sum [.var 1]) (.bi .sum [.var 2]))) [.ret (.cmp .ne (.var 3) (.lst []))] [], .ret (.cmp .eq (.call 10 [.var 2, .call 20 [.var 1, .bi .len [.var 2]]]) (.cmp .eq (.var 3) (.lst [])))] ⟨[some (.leaf v0), some (.leaf v1), some (.leaf v2), none, none, none, none, none, none], c⟩) := by
  rw [call_eq (d := ⟨3, 9, b__law_right⟩) rfl]
  exact run_fin rfl rfl
theorem r_law {P : Par} {n : Nat} {c : Cup} {v0 : D} : callF tb P (n + 1) 41 [v0] c = fin c (execs P (callF tb P n) [.cupS 1 (.call 26 [.var 0]), .asg (.var 2) (.lst [.call 21 [.tup [.con (.int 2), .con (.int 1)], .tup [.con (.int 2), .con (.int 1)]], .call 21 [.tup [.con (.int 2), .con (.int 1)], .tup [.con (.int 3), .con (.int 0)]], .call 23 [.tup [.con (.int 2), .con (.int 1)], .tup [.con (.int 3), .con (.int 0)]], .call 23 [.tup [.con (.int 1)], .tup [.con (.int 0)]], .call 23 [.tup [.con (.int 1)], .tup [.con (.int 1)]]]), .asg (.var 2) (.bin .add (.var 2) (.lst [.call 24 [.tup [.con (.int 2), .con (.int 1)], .tup [.con (.int 3), .con (.int 0)], .tup [.con (.str "columns"), .con (.int 2)]], .call 21 [.tup [.con (.int 2), .con (.int 1)], .tup [.con (.int 0), .con (.int 3)]], .call 24 [.tup [.con (.int 1)], .tup [.con (.int 1), .con (.int 1)], .tup [.con (.str "sum")]]])), .ifs (.not (.call 30 [.var 2, .lst [.con (.bl true), .con (.bl false), .tup [.con (.str "columns"), .con (.int 1)], .tup [.con (.str "sum")], .con .non, .con (.bl false), .con (.bl false), .con (.bl true)]])) [.ret (.con (.bl false))] [], .for_ (.tup [.var 6, .var 7]) (.tup [.tup [.con (.int 2), .con (.int 2)], .tup [.con (.int 3), .con (.int 4)], .tup [.con (.int 6), .con (.int 5)], .tup [.con (.int 12), .con (.int 12)]]) [.for_ (.var 8) (.rng (.con (.int 3))) [.asg (.tup [.var 3, .var 4]) (.call 39 [.var 1, .var 6, .var 7]), .ifs (.not (.call 40 [.var 1, .var 3, .var 4])) [.ret (.con (.bl false))] []]], .asg (.var 3) (.bi .tuple [.comp [8] (.var 8) (.rng (.bin .add (.con (.int 1)) (.call 27 [.var 1, .con (.int 4)]))) (.con (.bl true)) (.call 27 [.var 1, .con (.int 5)])]), .asg (.var 4) (.bi .tuple [.comp [8] (.var 8) (.rng (.bin .add (.con (.int 1)) (.call 27 [.var 1, .con (.int 4)]))) (.con (.bl true)) (.call 27 [.var 1, .con (.int 5)])]), .ifs (.not (.call 30 [.lst [.call 21 [.var 3, .var 4], .cmp .gt (.call 25 [.var 3, .var 4]) (.con (.int 0))], .bin .mul (.lst [.cmp .gt (.call 38 [.var 3, .var 4]) (.con (.int 0))]) (.con (.int 2))])) [.ret (.con (.bl false))] [], .asg (.var 5) (.call 34 [.var 1, .con (.int 8), .con (.int 8)]), .asg (.tup [.var 3, .var 4]) (.call 35 [.var 5]), .ret (.cmp .is (.call 21 [.var 3, .call 32 [.var 1, .var 4, .bin .add (.con (.int 1)) (.call 27 [.var 1, .con (.int 4)])]]) (.con (.bl true)))] ⟨[some (.leaf v0), none, none, none, none, none, none, none, none], c⟩) := by
  rw [call_eq (d := ⟨1, 9, b_law⟩) rfl]
  exact run_fin rfl rfl
end Lw
/-! the small defs of basics, plain -/
namespace Lw
open PySem Ev
variable {P : Par} {n : Nat} {c : Cup}
theorem c_is_integer (v : Int) : callF tb P (n + 1) 0 [.int v] c = .ok (.val (.bl true)) c := by
  rw [r_is_integer]
  cases c <;> rfl
theorem c_is_whole (v l h : Int) : callF tb P (n + 2) 1 [.int v, .int l, .int h] c = .ok (.val (.bl (within l h v))) c := by
  rw [r_is_whole]
  have e := c_is_integer (P := P) (n := n) (c := c) v
  simp [e, within]
  by_cases h1 : l ≤ v <;> simp [h1]
theorem c_need_whole (v l h : Int) : callF tb P (n + 3) 2 [.int v, .int l, .int h] c = if within l h v then .ok (.val .non) c else .exc 2 c := by
  rw [r_need_whole]
  have e := c_is_whole (P := P) (n := n) (c := c) v l h
  simp [e]
  cases within l h v <;> simp
theorem c_is_tuple_of (ds : List D) (l h : Int) : callF tb P (n + 1) 3 [.tup ds, .int l, .int h] c = .ok (.val (.bl (within l h (ds.length : Int)))) c := by
  rw [r_is_tuple_of]
  simp [within]
  by_cases h1 : l ≤ (ds.length : Int) <;> simp [h1]
/-- all of a row within -/
theorem comp_within {env : List (Option T)} {u i : Nat} (xs : List Int) (l h : Int) {a b : E} (hi : (env[i]?).bind id = some (.leaf (.tup (JL xs)))) (hu : (env[u]?).bind id = none) (hl : u < env.length) (hn : u ≠ i)
    (ha : ∀ s, (ev (callF tb P (n + 2)) a).b s = .ok (.val (.int l)) s) (hbb : ∀ s, (ev (callF tb P (n + 2)) b).b s = .ok (.val (.int h)) s) (hb : xs.length ≤ big) :
    (ev (callF tb P (n + 2)) (.comp [u] (.var u) (.var i) (.con (.bl true)) (.call 1 [.var u, a, b]))).b ⟨env, c⟩ = .ok (.new (JL (xs.map (within l h)))) ⟨back env (wipe env [u]) [u], c⟩ := by
  refine comp_J (s := ⟨env, c⟩) (s2 := ⟨env, c⟩) D.int (within l h) (by simp [hi]; rfl) (by simp [leafs, hu]) hb (fun x hx => ?_)
  simp [turn1, wipe, hl, c_is_whole, ha, hbb]
theorem c_fits_row (xs : List Int) (hb : xs.length ≤ big) : callF tb P (n + 3) 4 [.tup (JL xs)] c = .ok (.val (.bl (fits xs))) c := by
  rw [r_fits_row]
  have e := c_is_tuple_of (P := P) (n := n + 1) (c := c) (JL xs) 1 12
  have e2 := comp_within (P := P) (n := n) (c := c) (env := [some (.leaf (.tup (JL xs))), none]) (u := 1) (i := 0) xs (-1000000) 1000000 (a := .neg (.con (.int 1000000))) (b := .con (.int 1000000)) rfl rfl (by simp) (by simp) (fun s => rfl) (fun s => rfl) hb
  rw [JL_len] at e
  simp [e, fits]
  cases within 1 12 (xs.length : Int) <;> simp [e2, wipe, back, List.all_map]
theorem c_need_row (xs : List Int) (hb : xs.length ≤ big) : callF tb P (n + 4) 5 [.tup (JL xs)] c = if fits xs then .ok (.val .non) c else .exc 1 c := by
  rw [r_need_row]
  simp [c_fits_row xs hb]
  cases fits xs <;> simp
theorem c_falling (xs : List Int) : callF tb P (n + 1) 7 [.tup (JL xs)] c = .ok (.val (.tup (JL (fall xs)))) c := by
  rw [r_falling]
  simp [fall]
theorem c_fronts_in (xs : List Int) (hb : xs.length ≤ 1000) : callF tb P (n + 2) 8 [.tup (JL xs)] c = .ok (.val (.tup (JL (fronts 0 (fall xs))))) c := by
  rw [r_fronts_in]
  have key : ∀ (l : List Int) (o : Option T) (acc : List Int) (w : Int), acc.length + l.length ≤ 1000 → ∃ o' w', forL (ev (callF tb P (n + 1)) (.var 1)).g (execs P (callF tb P (n + 1)) [.asg (.var 3) (.bin .add (.var 3) (.var 1)), .append 2 (.var 3)]) (JL l) ⟨[some (.leaf (.tup (JL xs))), o, some (.own (JL acc)), some (.leaf (.int w))], c⟩ =
      .nx ⟨[some (.leaf (.tup (JL xs))), o', some (.own (JL (acc ++ fronts w l))), some (.leaf (.int w'))], c⟩ := by
    intro l
    induction l with
    | nil => intro o acc w _; exact ⟨o, w, by simp [fronts]⟩
    | cons x l ih =>
      intro o acc w hl
      simp only [List.length_cons] at hl
      obtain ⟨o', w', h⟩ := ih (some (.leaf (.int x))) (acc ++ [w + x]) (w + x) (by simp; omega)
      refine ⟨o', w', ?_⟩
      have hbig : acc.length < big := by unfold big; omega
      have hj : JL acc ++ [D.int (w + x)] = JL (acc ++ [w + x]) := JL_snoc acc (w + x)
      simp [JL_cons, hbig, hj, h, fronts]
  obtain ⟨o', w', h⟩ := key (fall xs) none [] 0 (by rw [fall_len]; simpa using hb)
  simp at h
  simp [c_falling, h]
theorem c_need_as_long (xs ys : List Int) (hb : ys.length ≤ big) : callF tb P (n + 4) 6 [.tup (JL xs), .tup (JL ys)] c = if fits ys && decide (ys.length = xs.length) then .ok (.val .non) c else .exc 1 c := by
  rw [r_need_as_long]
  simp [c_fits_row ys hb]
  cases fits ys <;> simp
  by_cases h : ys.length = xs.length <;> simp [h]
  rw [decide_eq_false (by omega)]; simp
theorem c_is_as_even_in (xs ys : List Int) (h : xs.length = ys.length) (h1 : 1 ≤ xs.length) (hb : xs.length ≤ 1000) : callF tb P (n + 3) 9 [.tup (JL xs), .tup (JL ys)] c = .ok (.val (.bl (evn xs ys))) c := by
  rw [r_is_as_even_in]
  have e := c_fronts_in (P := P) (n := n) (c := c) xs hb
  have e2 := c_fronts_in (P := P) (n := n) (c := c) ys (by omega)
  have l1 : (fronts 0 (fall xs)).length = xs.length := by rw [fronts_len, fall_len]
  have l2 : (fronts 0 (fall ys)).length = xs.length := by rw [fronts_len, fall_len, h]
  unfold evn
  revert l1 l2 e e2
  generalize fronts 0 (fall xs) = fs
  generalize fronts 0 (fall ys) = gs
  intro e e2 l1 l2
  have q1 := at_JLlast fs (lastI fs) (last_some fs (by omega))
  have q2 := at_JLlast gs (lastI gs) (last_some gs (by omega))
  simp [e, e2, q1, q2]
  have hc := comp_J (F := callF tb P (n + 2)) (g := .tup [.var 4, .var 5]) (it := .zip [.var 2, .var 3]) (e := .cmp .le (.var 4) (.var 5)) (vs := [4, 5])
    (s := ⟨[some (.leaf (.tup (JL xs))), some (.leaf (.tup (JL ys))), some (.leaf (.tup (JL fs))), some (.leaf (.tup (JL gs))), none, none], c⟩)
    (s2 := ⟨[some (.leaf (.tup (JL xs))), some (.leaf (.tup (JL ys))), some (.leaf (.tup (JL fs))), some (.leaf (.tup (JL gs))), none, none], c⟩)
    em (fun p => decide (p.1 ≤ p.2)) (l := fs.zip gs) (by
      simp [allItems?, zip_two]) rfl (by unfold big; simp; omega) (fun x hx => by
      obtain ⟨x1, x2⟩ := x
      simp [turn1, wipe, em_pair])
  simp at hc
  by_cases q : lastI fs = lastI gs
  · simp [q, hc, wipe, back, ev9, List.all_map]
  · simp [q, ev9]
theorem c_is_as_even (xs ys : List Int) (f1 : fits xs = true) (f2 : fits ys = true) (h : xs.length = ys.length) (h1 : 1 ≤ xs.length) (hb : xs.length ≤ 1000) : callF tb P (n + 5) 10 [.tup (JL xs), .tup (JL ys)] c = .ok (.val (.bl (evn xs ys))) c := by
  rw [r_is_as_even]
  have e := c_need_row (P := P) (n := n) (c := c) xs (by unfold big; omega)
  have e2 := c_need_as_long (P := P) (n := n) (c := c) xs ys (by unfold big; omega)
  rw [f1] at e
  rw [f2, decide_eq_true h.symm] at e2
  have e3 := c_is_as_even_in (P := P) (n := n + 1) (c := c) xs ys h h1 hb
  simp [e, e2, e3]
end Lw

/-! what all laws share: cup, roll, like -/
namespace Lw
open PySem Ev
variable {P : Par} {n : Nat} {c : Cup}
/-- a cup as it should be -/
def GC (c : Cup) : Prop := ∃ x y : Int, c = some (x, y) ∧ 0 ≤ x ∧ 0 ≤ y ∧ y < 4294967296
theorem kept_GC {c c' : Cup} {r : CR} (h : GC c) (h' : GC c') : kept c c' r = r := by
  obtain ⟨x, y, rfl, _⟩ := h
  obtain ⟨x', y', rfl, _⟩ := h'
  exact kept_some
theorem natAbs_lt {i : Int} {m : Nat} (h0 : 0 ≤ i) (h : i < (m : Int)) : i.natAbs < m := by omega
theorem mul_small {i j : Int} (h0 : 0 ≤ j) (h : j < 2 ^ 64) : mulOk i j = true := by
  unfold mulOk
  have : j.natAbs < 2 ^ 64 := by omega
  rw [decide_eq_true this]; simp
theorem div_small {j : Int} (h0 : 0 < j) (h : j < 1073741824) : divOk j = true := by
  unfold divOk
  rw [decide_eq_true h0, decide_eq_true h]; rfl
theorem op_mod {i j : Int} (h : 0 < j) : binop .mod (.int i) (.int j) = some (.val (.int (i % j))) := by unfold binop; simp [h]
theorem op_fdiv {i j : Int} (h : divOk j = true) : binop .fdiv (.int i) (.int j) = some (.val (.int (i / j))) := by unfold binop; simp [h]
theorem op_mul {i j : Int} (h : mulOk i j = true) : binop .mul (.int i) (.int j) = some (.val (.int (i * j))) := by unfold binop; simp [h]
theorem cup0 (x y : Int) : ixop (some (x, y)) .cup (.int 0) = some (.int x) := rfl
theorem cup1 (x y : Int) : ixop (some (x, y)) .cup (.int 1) = some (.int y) := rfl
theorem c_roll (m : Int) (h1 : 0 < m) (h2 : m < 1073741824) (hc : GC c) : ∃ (r : Int) (c' : Cup), callF tb P (n + 1) 27 [.cup, .int m] c = .ok (.val (.int r)) c' ∧ (0 ≤ r ∧ r < m) ∧ GC c' := by
  rw [r__law_roll]
  obtain ⟨x, y, rfl, hx, hy, hy2⟩ := hc
  by_cases h : 0 < x
  · refine ⟨x % m, some (x / m, y), ?_, ⟨Int.emod_nonneg _ (by omega), Int.emod_lt_of_pos _ h1⟩, x / m, y, rfl, Int.ediv_nonneg hx (by omega), hy, hy2⟩
    simp [cup0, h, op_mod h1, op_fdiv (div_small h1 h2), put1]
  · have e0 : x = 0 := by omega
    subst e0
    have hm1 : mulOk y 31051 = true := mul_small (by omega) (by omega)
    let y1 : Int := (y * 31051 + 7993) % 2147483543
    have hy1 : 0 ≤ y1 := Int.emod_nonneg _ (by omega)
    have hy12 : y1 < 2147483543 := Int.emod_lt_of_pos _ (by omega)
    have hm2 : mulOk y1 (y1 + 229) = true := mul_small (by omega) (by omega)
    refine ⟨y1 * (y1 + 229) % 2147483587 / 821 % m, some (0, y1), ?_, ⟨Int.emod_nonneg _ (by omega), Int.emod_lt_of_pos _ h1⟩, 0, y1, rfl, by omega, hy1, by omega⟩
    have q1 : (y * 31051 + 7993) % 2147483543 = y1 := rfl
    simp [cup0, cup1, op_mul hm1, op_mod (i := y * 31051 + 7993) (j := 2147483543) (by omega), put1, q1, op_mul hm2,
      op_mod (i := y1 * (y1 + 229)) (j := 2147483587) (by omega), op_fdiv (j := 821) (div_small (by omega) (by omega)), op_mod h1]
theorem c_cup (xs : List Int) (hb : xs.length < 64) : ∃ x y : Int, callF tb P (n + 1) 26 [.ro xs] none = .ok (.new [.int x, .int y]) none ∧ GC (some (x, y)) := by
  rw [r__law_cup]
  have hlen : xs.length + 1 ≤ big := by unfold big; omega
  have hz : at? (JL (xs ++ [0])) 0 = some (.int ((xs ++ [0]).headD 0)) := by
    cases xs with
    | nil => rfl
    | cons x xs => exact at_JL0 x (xs ++ [0])
  generalize (xs ++ [0]).headD 0 = v at hz
  let a : Int := if v < 0 then -v else v
  have ha : 0 ≤ a := by show 0 ≤ if v < 0 then -v else v; split <;> omega
  have hm : mulOk a 283 = true := mul_small (by omega) (by omega)
  have hp : binop .pow (.int 10) (.int 18) = some (.val (.int 1000000000000000000)) := by rfl
  have hadd : binop .add (.lst (JL xs)) (.lst [.int 0]) = some (.new (JL (xs ++ [0]))) := by
    unfold binop
    simp [hlen]
    exact JL_snoc xs 0
  have hl : biop .list [.ro xs] = some (.new (JL xs)) := rfl
  refine ⟨if 1000000000000000000 ≤ a then a / 73 else 0, (a * 283 + 3907) % 2077503167 + 167, ?_, _, _, rfl, ?_, ?_, ?_⟩
  · have q : (if v < 0 then -v else v) = a := rfl
    by_cases h : 1000000000000000000 ≤ a
    · simp [hl, hadd, hz, bi_abs, q, hp, h, op_fdiv (j := 73) (div_small (by omega) (by omega)), op_mul hm, op_mod (i := a * 283 + 3907) (j := 2077503167) (by omega)]
    · simp [hl, hadd, hz, bi_abs, q, hp, h, op_fdiv (j := 73) (div_small (by omega) (by omega)), op_mul hm, op_mod (i := a * 283 + 3907) (j := 2077503167) (by omega)]
  · split
    · exact Int.ediv_nonneg ha (by omega)
    · omega
  · have := Int.emod_nonneg (a * 283 + 3907) (b := 2077503167) (by omega); omega
  · have := Int.emod_lt_of_pos (a * 283 + 3907) (b := 2077503167) (by omega); omega
def srt : D → Int
  | .non => 0
  | .bl _ => 1
  | .int _ => 2
  | .str _ => 3
  | .tup _ => 4
  | _ => 5
theorem c_sort (k : Nat) (d : D) (h : okD k d = true) : callF tb P (n + 1) 29 [d] c = .ok (.val (.int (srt d))) c := by
  rw [r__law_sort]
  cases d <;> first | (simp [srt]; done) | (simp [okD] at h; done)
theorem zip_self : ∀ xs : List D, zipN [xs, xs] = xs.map fun x => .tup [x, x]
  | [] => by simp [zipN]
  | x :: xs => by
    rw [List.map_cons, ← zip_self xs]; rfl
theorem filter_no {α : Type} (l : List α) : l.filter (fun _ => false) = [] := by simp
theorem okDs_mem : ∀ {k : Nat} {xs : List D}, okDs k xs = true → ∀ x ∈ xs, okD k x = true
  | k, [], _, x, hx => nomatch hx
  | k, y :: ys, h, x, hx => by
    rw [okDs_cons, Bool.and_eq_true] at h
    rcases List.mem_cons.1 hx with rfl | hx
    · exact h.1
    · exact okDs_mem h.2 x hx
theorem eq_refl_leaf (d : D) (h : okD 64 d = true) (hd : ∀ xs, d ≠ .tup xs ∧ d ≠ .lst xs) : cmpop .eq d d = some true := by
  rw [cmp_eqd, h]
  cases d <;> simp [eqD] <;> first | exact absurd rfl (hd _).1 | exact absurd rfl (hd _).2 | (simp [okD] at h; done)
theorem like_items (k : Nat) (d : D) (xs : List D) (hd : d = .tup xs ∨ d = .lst xs) (h : okDs k xs = true) (hb : xs.length ≤ big)
    (ih : ∀ x ∈ xs, callF tb P (n + 1) 30 [x, x] c = .ok (.val (.bl true)) c) : callF tb P (n + 2) 30 [d, d] c = .ok (.val (.bl true)) c := by
  rw [r__law_like]
  have hk : okD (k + 1) d = true := by
    rcases hd with rfl | rfl
    · rw [okD_tup]; exact h
    · rw [okD_lst]; exact h
  have hs : srt d = 4 ∨ srt d = 5 := by rcases hd with rfl | rfl <;> simp [srt]
  have hi : items? d = some xs := by rcases hd with rfl | rfl <;> rfl
  have hl : biop .len [d] = some (.val (.int xs.length)) := by rcases hd with rfl | rfl <;> rfl
  have hin : ∀ i : Int, (i = 4 ∨ i = 5) → cmpop .isin (.int i) (.tup [.int 4, .int 5]) = some true := by
    intro i hi; rcases hi with rfl | rfl <;> rfl
  have h6 : srt d ≠ 6 := by omega
  have he : cmpop .eq (.lst []) (.lst []) = some true := rfl
  have hc := comp_F (α := D) (β := Int) (F := callF tb P (n + 1)) (g := .tup [.var 3, .var 4]) (it := .zip [.var 0, .var 1]) (c := .not (.call 30 [.var 3, .var 4])) (e := .con (.int 1)) (vs := [3, 4])
    (s := ⟨[some (.leaf d), some (.leaf d), some (.leaf (.int (srt d))), none, none], c⟩)
    (s2 := ⟨[some (.leaf d), some (.leaf d), some (.leaf (.int (srt d))), none, none], c⟩)
    (fun x => .tup [x, x]) (fun _ => false) (fun _ => 1) (l := xs) (by simp [allItems?, hi, zip_self]) rfl hb (fun x hx => by
      simp [turn1, wipe, ih x hx])
  rw [filter_no, List.map_nil, JL_nil] at hc
  simp [c_sort (k + 1) d hk, hl, h6, hin _ hs, hc, wipe, back, he]
theorem like_leaf (d : D) (h : okD 64 d = true) (hd : ∀ xs, d ≠ .tup xs ∧ d ≠ .lst xs) : callF tb P (n + 2) 30 [d, d] c = .ok (.val (.bl true)) c := by
  rw [r__law_like]
  have hin : ∀ i : Int, i = 0 ∨ i = 1 ∨ i = 2 ∨ i = 3 → cmpop .isin (.int i) (.tup [.int 4, .int 5]) = some false := by
    intro i hi; rcases hi with rfl | rfl | rfl | rfl <;> rfl
  have hs : srt d = 0 ∨ srt d = 1 ∨ srt d = 2 ∨ srt d = 3 := by
    cases d <;> simp [srt] <;> first | exact absurd rfl (hd _).1 | exact absurd rfl (hd _).2 | (simp [okD] at h; done)
  have h6 : srt d ≠ 6 := by omega
  simp [c_sort 64 d h, h6, hin _ hs, eq_refl_leaf d h hd]
theorem like_refl {k : Nat} {d : D} (h : PlD k d) : ∀ (n : Nat) (c : Cup), k ≤ 64 → callF tb P (n + k + 2) 30 [d, d] c = .ok (.val (.bl true)) c := by
  induction h with
  | non k => exact fun n c _ => like_leaf _ rfl (by simp)
  | bl k b => exact fun n c _ => like_leaf _ (okB b 64) (by simp)
  | int k b => exact fun n c _ => like_leaf _ (okI b 64) (by simp)
  | str k b hb => exact fun n c _ => like_leaf _ (by simp [okD, hb]) (by simp)
  | tup k xs hb hx ih => exact fun n c hk => like_items (n := n + k + 1) k _ xs (.inl rfl) (okDs_of fun x m => (hx x m).ok k (Nat.le_refl k)) hb fun x m => ih x m n c (by omega)
  | lst k xs hb hx ih => exact fun n c hk => like_items (n := n + k + 1) k _ xs (.inr rfl) (okDs_of fun x m => (hx x m).ok k (Nat.le_refl k)) hb fun x m => ih x m n c (by omega)
end Lw

/-! marktables, plain -/
namespace Lw
open PySem Ev
variable {P : Par} {n : Nat} {c : Cup}
theorem c_fits_counts (xs : List Int) (hb : xs.length ≤ big) : callF tb P (n + 3) 11 [.tup (JL xs)] c = .ok (.val (.bl (fitc xs))) c := by
  rw [r_fits_counts]
  have e := c_is_tuple_of (P := P) (n := n + 1) (c := c) (JL xs) 1 12
  have e2 := comp_within (P := P) (n := n) (c := c) (env := [some (.leaf (.tup (JL xs))), none]) (u := 1) (i := 0) xs 0 12 (a := .con (.int 0)) (b := .con (.int 12)) rfl rfl (by simp) (by simp) (fun s => rfl) (fun s => rfl) hb
  rw [JL_len] at e
  simp [e, fitc]
  cases within 1 12 (xs.length : Int) <;> simp [e2, wipe, back, List.all_map]
theorem c_need_counts (xs : List Int) (m : Int) (hb : xs.length ≤ big) : callF tb P (n + 4) 12 [.tup (JL xs), .int m] c = if fitc xs && decide ((xs.length : Int) ≤ m) then .ok (.val .non) c else .exc 1 c := by
  rw [r_need_counts]
  simp [c_fits_counts xs hb]
  cases fitc xs <;> simp
  by_cases h : (xs.length : Int) ≤ m
  · rw [decide_eq_false (by omega)]; simp [h]
  · rw [decide_eq_true (by omega)]; simp [h]
theorem c_mark_counts_in {w : Nat} (t : List (List Int)) (h : GT w t) : callF tb P (n + 1) 13 [.tup (JL t)] c = .ok (.val (.tup [.tup (JL (t.map List.sum)), .tup (JL (cols w t))])) c := by
  rw [r_mark_counts_in]
  have c1 := comp_J (F := callF tb P n) (g := .var 1) (it := .var 0) (e := .bi .sum [.var 1]) (vs := [1])
    (s := ⟨[some (.leaf (.tup (JL t))), none, none], c⟩) (s2 := ⟨[some (.leaf (.tup (JL t))), none, none], c⟩) em List.sum (l := t) rfl rfl h.big (fun r hr => by
      simp [turn1, wipe])
  have c2 := comp_J (F := callF tb P n) (g := .var 2) (it := .zipS (.var 0)) (e := .bi .sum [.var 2]) (vs := [2])
    (s := ⟨[some (.leaf (.tup (JL t))), none, none], c⟩) (s2 := ⟨[some (.leaf (.tup (JL t))), none, none], c⟩) (fun j => em (t.map fun r => itAt r j)) (fun j => (t.map fun r => itAt r j).sum) (l := List.range w) (by
      rw [zipS_i]
      simp [sOne, allItems_rows]
      exact zipN_tab t h.ne fun r hr => (h.2.2 r hr).1) rfl (by rw [List.length_range]; have := h.2.1.2; unfold Ev.big; omega) (fun r hr => by
      simp [turn1, wipe])
  simp [c1, wipe, back, c2]
  simp [em_pair, cols]
theorem c_over_in (xs : List Int) (w : Nat) (hb : xs.length ≤ big) (hw : w ≤ big) : callF tb P (n + 1) 14 [.tup (JL xs), .int w] c = .ok (.val (.tup (JL (over xs w)))) c := by
  rw [r_over_in]
  have c1 := comp_J (F := callF tb P n) (g := .var 2) (it := .rng (.var 1)) (e := .bi .len [.comp [3] (.var 3) (.var 0) (.cmp .gt (.var 3) (.var 2)) (.con (.int 1))]) (vs := [2])
    (s := ⟨[some (.leaf (.tup (JL xs))), some (.leaf (.int w)), none, none], c⟩) (s2 := ⟨[some (.leaf (.tup (JL xs))), some (.leaf (.int w)), none, none], c⟩) (fun (j : Nat) => D.int j) (fun (j : Nat) => ((xs.filter fun x => decide ((j : Int) < x)).length : Int)) (l := List.range w)
      (rng_nat (by simp) hw) rfl (by rw [List.length_range]; exact hw) (fun j hj => by
      have c2 := comp_F (α := Int) (β := Int) (F := callF tb P n) (g := .var 3) (it := .var 0) (c := .cmp .gt (.var 3) (.var 2)) (e := .con (.int 1)) (vs := [3])
        (s := ⟨[some (.leaf (.tup (JL xs))), some (.leaf (.int w)), some (.leaf (.int j)), none], c⟩) (s2 := ⟨[some (.leaf (.tup (JL xs))), some (.leaf (.int w)), some (.leaf (.int j)), none], c⟩) em (fun x => decide ((j : Int) < x)) (fun _ => 1) (l := xs) rfl rfl hb (fun x hx => by
          by_cases q : (j : Int) < x <;> simp [turn1, wipe, q])
      simp [turn1, wipe, c2, back])
  simp [c1, wipe, back, over]
theorem c_turned_over (xs : List Int) (w : Nat) (h : fitc xs = true) (h0 : xs.length ≤ 12) (h1 : 1 ≤ w) (h2 : w ≤ 12) : callF tb P (n + 5) 20 [.tup (JL xs), .int w] c = .ok (.val (.tup (JL (over xs w)))) c := by
  rw [r_turned_over]
  have e1 := c_need_counts (P := P) (n := n) (c := c) xs 12 (by unfold big; omega)
  rw [h, decide_eq_true (by omega)] at e1
  have e2 := c_need_whole (P := P) (n := n + 1) (c := c) w 1 12
  rw [within_ok (by omega) (by omega)] at e2
  simp [e1, e2, c_over_in xs w (by unfold big; omega) (by unfold big; omega)]
end Lw

/-! the marks laws' own helpers -/
namespace Lw
open PySem Ev
variable {P : Par} {n : Nat} {c : Cup}
theorem c__law_falling (xs : List Int) : callF tb P (n + 1) 31 [.tup (JL xs)] c = .ok (.val (.tup (JL (fall xs)))) c := by
  rw [r__law_falling]
  simp [fall]
theorem c_counts_of {w : Nat} (t : List (List Int)) (h : GT w t) : callF tb P (n + 1) 35 [.tup (JL t)] c = .ok (.val (.tup [.tup (JL (t.map List.sum)), .tup (JL (cols w t))])) c := by
  rw [r__law_counts_of]
  obtain ⟨r0, t', ht, hr0⟩ := h.row0
  have h0 : at? (JL t) 0 = some (em r0) := by rw [ht]; exact at_JL0 r0 t'
  have hw : w ≤ big := by have := h.2.1.2; unfold big; omega
  obtain ⟨o', e⟩ := for_appP (g := (ev (callF tb P n) (.var 2)).g) (body := execs P (callF tb P n) [.append 1 (.bi .sum [.comp [3] (.var 3) (.var 0) (.con (.bl true)) (.ix (.var 3) (.var 2))])]) (fun (j : Nat) => D.int j) (fun j => (t.map fun r => itAt r j).sum)
    (fun o acc => [some (.leaf (.tup (JL t))), some (.own acc), o, none]) (List.range w) [] none c (by simp; exact hw) (fun j hj o acc => by simp) (fun j hj acc ha => by
    have c1 := comp_J (F := callF tb P n) (g := .var 3) (it := .var 0) (e := .ix (.var 3) (.var 2)) (vs := [3])
      (s := ⟨[some (.leaf (.tup (JL t))), some (.own (JL acc)), some (.leaf (.int j)), none], c⟩) (s2 := ⟨[some (.leaf (.tup (JL t))), some (.own (JL acc)), some (.leaf (.int j)), none], c⟩) em (fun r => itAt r j) (l := t) rfl rfl h.big (fun r hr => by
        have hl := (h.2.2 r hr).1
        have e := at_JL r (i := j) (itAt r j) (get_it (by have := List.mem_range.1 hj; omega))
        simp [turn1, wipe, e])
    have hj2 : ∀ v : Int, JL acc ++ [D.int v] = JL (acc ++ [v]) := fun v => JL_snoc acc v
    simp [c1, wipe, back, ha, hj2])
  have c2 := comp_J (F := callF tb P n) (g := .var 3) (it := .var 0) (e := .bi .sum [.var 3]) (vs := [3])
    (s := ⟨[some (.leaf (.tup (JL t))), some (.own (JL (cols w t))), o', none], c⟩) (s2 := ⟨[some (.leaf (.tup (JL t))), some (.own (JL (cols w t))), o', none], c⟩) em List.sum (l := t) rfl rfl h.big (fun r hr => by simp [turn1, wipe])
  have hrng := rng_nat (F := callF tb P n) (a := .bi .len [.ix (.var 0) (.con (.int 0))]) (z := true) (k := w) (s := ⟨[some (.leaf (.tup (JL t))), some (.own []), none, none], c⟩) (s1 := ⟨[some (.leaf (.tup (JL t))), some (.own []), none, none], c⟩) (by simp [h0, hr0]) hw
  simp only [JL_nil, List.nil_append] at e
  change forL _ _ _ _ = .nx ⟨[some (.leaf (.tup (JL t))), some (.own (JL (cols w t))), o', none], c⟩ at e
  simp [hrng, e, c2, wipe, back]
theorem c_law_marks (most wide : Nat) (h1 : 1 ≤ most) (h2 : most ≤ 12) (h3 : 1 ≤ wide) (h4 : wide ≤ 12) (hc : GC c) : ∃ (w : Nat) (t : List (List Int)) (c' : Cup), callF tb P (n + 2) 34 [.cup, .int most, .int wide] c = .ok (.val (.tup (JL t))) c' ∧ (GT w t ∧ t.length ≤ most ∧ w ≤ wide) ∧ GC c' := by
  rw [r__law_marks]
  obtain ⟨sh, k1, e1, ⟨b1, b1'⟩, g1⟩ := c_roll (P := P) (n := n) 9 (by omega) (by omega) hc
  obtain ⟨ro, k2, e2, ⟨b2, b2'⟩, g2⟩ := c_roll (P := P) (n := n) most (by omega) (by omega) g1
  obtain ⟨co, k3, e3, ⟨b3, b3'⟩, g3⟩ := c_roll (P := P) (n := n) wide (by omega) (by omega) g2
  obtain ⟨ro, rfl⟩ := Int.eq_ofNat_of_zero_le b2
  obtain ⟨co, rfl⟩ := Int.eq_ofNat_of_zero_le b3
  obtain ⟨C, hC⟩ : ∃ C : Nat, C = co + 1 := ⟨_, rfl⟩
  obtain ⟨R, hR⟩ : ∃ R : Nat, R = ro + 1 := ⟨_, rfl⟩
  have hw : C ≤ big := by unfold big; omega
  have hq : R ≤ big := by unfold big; omega
  have i1 : (1 : Int) + (ro : Int) = (R : Int) := by omega
  have i2 : (1 : Int) + (co : Int) = (C : Int) := by omega
  obtain ⟨t, o', k', e, q, g4⟩ := for_app (g := (ev (callF tb P (n + 1)) (.var 5)).g) (body := execs P (callF tb P (n + 1)) [.append 4 (.bi .tuple [.comp [8] (.var 8) (.rng (.var 3)) (.con (.bl true)) (.ife (.cmp .lt (.call 27 [.var 0, .con (.int 10)]) (.var 6)) (.con (.int 1)) (.con (.int 0)))])]) (fun (j : Nat) => D.int j) GC (fun _ (r : List Int) => r.length = C ∧ ∀ x ∈ r, x = 0 ∨ x = 1)
    (fun o acc => [some (.leaf .cup), some (.leaf (.int most)), some (.leaf (.int wide)), some (.leaf (.int C)), some (.own acc), o, some (.leaf (.int (1 + sh))), some (.leaf (.int R)), none]) (List.range R) [] none k3 (by simp; exact hq) g3 (fun j hj o acc k _ => by simp) (fun j hj acc k ha hk => by
    obtain ⟨r, k', e, q, g5⟩ := comp_R (β := Int) (F := callF tb P (n + 1)) (g := .var 8) (it := .rng (.var 3)) (c := .con (.bl true)) (e := .ife (.cmp .lt (.call 27 [.var 0, .con (.int 10)]) (.var 6)) (.con (.int 1)) (.con (.int 0))) (vs := [8]) (fun (j : Nat) => D.int j) GC (fun _ y => y = 0 ∨ y = 1) (l := List.range C)
      (s := ⟨[some (.leaf .cup), some (.leaf (.int most)), some (.leaf (.int wide)), some (.leaf (.int C)), some (.own (JL acc)), some (.leaf (.int j)), some (.leaf (.int (1 + sh))), some (.leaf (.int R)), none], k⟩)
      (s2 := ⟨[some (.leaf .cup), some (.leaf (.int most)), some (.leaf (.int wide)), some (.leaf (.int C)), some (.own (JL acc)), some (.leaf (.int j)), some (.leaf (.int (1 + sh))), some (.leaf (.int R)), none], k⟩)
      (rng_nat (by simp) hw) rfl (by rw [List.length_range]; exact hw) hk (fun x hx k hk => by
        obtain ⟨d, k', e, ⟨b, b'⟩, g⟩ := c_roll (P := P) (n := n) 10 (by omega) (by omega) hk
        by_cases q : d < 1 + sh
        · exact ⟨1, k', by simp [turn1, wipe, e, q], .inr rfl, g⟩
        · exact ⟨0, k', by simp [turn1, wipe, e, q], .inl rfl, g⟩)
    have hj2 : JL acc ++ [D.tup (JL r)] = JL (acc ++ [r]) := JL_snoc acc r
    exact ⟨r, k', by simp [e, wipe, back, ha, hj2], ⟨by rw [q.len, List.length_range], fun x hx => q.right (R := fun y => y = 0 ∨ y = 1) (fun _ _ h => h) x hx⟩, g5⟩)
  simp only [JL_nil, List.nil_append] at e
  have hrng := rng_nat (F := callF tb P (n + 1)) (a := .var 7) (z := true) (k := R) (s := ⟨[some (.leaf .cup), some (.leaf (.int most)), some (.leaf (.int wide)), some (.leaf (.int C)), some (.own []), none, some (.leaf (.int (1 + sh))), some (.leaf (.int R)), none], k3⟩) (s1 := ⟨[some (.leaf .cup), some (.leaf (.int most)), some (.leaf (.int wide)), some (.leaf (.int C)), some (.own []), none, some (.leaf (.int (1 + sh))), some (.leaf (.int R)), none], k3⟩) (by simp) hq
  have hl := q.len
  rw [List.length_range] at hl
  refine ⟨C, t, k', ?_, ⟨⟨⟨by omega, by omega⟩, ⟨by omega, by omega⟩, fun r hr => q.right (R := fun r => r.length = C ∧ ∀ x ∈ r, x = 0 ∨ x = 1) (fun _ _ h => h) r hr⟩, by omega, by omega⟩, g4⟩
  simp [e1, e2, e3, i1, i2, hrng, e, kept_GC hc g4]
end Lw

/-! is it a whole number, a tuple: of any plain value -/
namespace Lw
open PySem Ev
variable {P : Par} {n : Nat} {c : Cup}
def tupOf (l h : Int) : D → Bool
  | .tup ds => within l h (ds.length : Int)
  | _ => false
theorem tupOf_tup (l h : Int) (ds : List D) : tupOf l h (.tup ds) = within l h (ds.length : Int) := rfl
def isW (l h : Int) : D → Bool
  | .int i => within l h i
  | _ => false
def isI : D → Bool
  | .int _ => true
  | _ => false
theorem g_is_integer {k : Nat} {d : D} (h : PlD k d) : callF tb P (n + 1) 0 [d] c = .ok (.val (.bl (isI d))) c := by
  rw [r_is_integer]
  cases h <;> simp [isI]
theorem g_is_whole {k : Nat} {d : D} (hd : PlD k d) (l h : Int) : callF tb P (n + 2) 1 [d, .int l, .int h] c = .ok (.val (.bl (isW l h d))) c := by
  rw [r_is_whole]
  have e := g_is_integer (P := P) (n := n) (c := c) hd
  cases hd with
  | int k v =>
    simp [e, isW, isI, within]
    by_cases h1 : l ≤ v <;> simp [h1]
  | _ => simp [e, isW, isI]
theorem g_is_tuple_of {k : Nat} {d : D} (hd : PlD k d) (l h : Int) : callF tb P (n + 1) 3 [d, .int l, .int h] c = .ok (.val (.bl (tupOf l h d))) c := by
  cases hd with
  | tup k xs _ _ => exact c_is_tuple_of xs l h
  | _ => rw [r_is_tuple_of]; simp [tupOf]
/-- all of any items within -/
theorem comp_isW {env : List (Option T)} {u i k : Nat} {d : D} {xs : List D} (hx : ∀ x ∈ xs, PlD k x) (l h : Int) {a b : E} (hi : (env[i]?).bind id = some (.leaf d)) (hd : items? d = some xs) (hu : (env[u]?).bind id = none) (hl : u < env.length) (hn : u ≠ i)
    (ha : ∀ s, (ev (callF tb P (n + 2)) a).b s = .ok (.val (.int l)) s) (hbb : ∀ s, (ev (callF tb P (n + 2)) b).b s = .ok (.val (.int h)) s) (hb : xs.length ≤ big) :
    (ev (callF tb P (n + 2)) (.comp [u] (.var u) (.var i) (.con (.bl true)) (.call 1 [.var u, a, b]))).b ⟨env, c⟩ = .ok (.new (JL (xs.map (isW l h)))) ⟨back env (wipe env [u]) [u], c⟩ := by
  refine comp_J (s := ⟨env, c⟩) (s2 := ⟨env, c⟩) (fun x : D => x) (isW l h) (by simp [hi, hd]) (by simp [leafs, hu]) hb (fun x hm => ?_)
  simp [turn1, wipe, hl, g_is_whole (hx x hm), ha, hbb]
end Lw

/-! tables counted, plain -/
namespace Lw
open PySem Ev
variable {P : Par} {n : Nat} {c : Cup}
theorem allrows_len : ∀ w : Nat, (allrows w).length = 2 ^ w
  | 0 => rfl
  | w + 1 => by
    have : ∀ l : List (List Int), (l.flatMap fun r => [r ++ [0], r ++ [1]]).length = 2 * l.length := by
      intro l
      induction l with
      | nil => rfl
      | cons _ _ ih => simp [ih]; omega
    rw [allrows, this, allrows_len w, Nat.pow_succ]; omega
theorem pow_big {w : Nat} (h : w ≤ 12) : 2 ^ w ≤ 4096 := by
  have := Nat.pow_le_pow_right (n := 2) (by omega) h
  omega
theorem op_snoc (r : List Int) (x : Int) (h : r.length ≤ 1000) : binop .add (.tup (JL r)) (.tup [.int x]) = some (.val (.tup (JL (r ++ [x])))) := by
  rw [op_addT (by rw [JL_len]; unfold big; simp; omega)]
  have := JL_snoc r x
  rw [em_int] at this
  rw [this]
theorem all_rows_in (l : List (List Int)) (w : Nat) (hw : w ≤ 12) (t1 o2 : Option T) (v : D) : ∀ (l acc : List (List Int)) (o : Option T), (∀ r ∈ l, r.length = w) → acc.length + 2 * l.length ≤ 10000 →
    ∃ o', forL (ev (callF tb P n) (.var 4)).g (execs P (callF tb P n) [.asg (.var 3) (.bin .add (.var 3) (.lst [.bin .add (.var 4) (.tup [.con (.int 0)]), .bin .add (.var 4) (.tup [.con (.int 1)])]))]) (JL l) ⟨[some (.leaf v), t1, o2, some (.own (JL acc)), o], c⟩ =
      .nx ⟨[some (.leaf v), t1, o2, some (.own (JL (acc ++ l.flatMap fun r => [r ++ [0], r ++ [1]]))), o'], c⟩
  | [], acc, o, _, _ => ⟨o, by simp⟩
  | r :: l, acc, o, hr, hl => by
    simp only [List.length_cons] at hl
    obtain ⟨o', ih⟩ := all_rows_in l w hw t1 o2 v l (acc ++ [r ++ [0], r ++ [1]]) (some (.leaf (.tup (JL r)))) (fun x hx => hr x (List.mem_cons_of_mem _ hx)) (by simp; omega)
    refine ⟨o', ?_⟩
    have e0 := op_snoc r 0 (by rw [hr r List.mem_cons_self]; omega)
    have e1 := op_snoc r 1 (by rw [hr r List.mem_cons_self]; omega)
    have ea : binop .add (.lst (JL acc)) (.lst [.tup (JL (r ++ [0])), .tup (JL (r ++ [1]))]) = some (.new (JL (acc ++ [r ++ [0], r ++ [1]]))) := by
      rw [op_addL (by rw [JL_len]; unfold big; simp; omega)]
      exact congrArg (fun x => some (B.new x)) (JL_app acc [r ++ [0], r ++ [1]])
    simp [JL_cons, e0, e1, ea]
    simp at ih
    rw [ih]
theorem all_rows_out (v : D) : ∀ (k j : Nat) (t1 : T) (o2 o3 o4 : Option T), j + k ≤ 12 → (t1 = .own (JL (allrows j)) ∨ t1 = .leaf (.lst (JL (allrows j)))) →
    ∃ t1' o2' o3' o4', forL (ev (callF tb P n) (.var 2)).g (execs P (callF tb P n) [.asg (.var 3) (.lst []), .for_ (.var 4) (.var 1) [.asg (.var 3) (.bin .add (.var 3) (.lst [.bin .add (.var 4) (.tup [.con (.int 0)]), .bin .add (.var 4) (.tup [.con (.int 1)])]))], .asg (.var 1) (.var 3)]) ((List.range' j k).map fun (i : Nat) => D.int i) ⟨[some (.leaf v), some t1, o2, o3, o4], c⟩ =
      .nx ⟨[some (.leaf v), some t1', o2', o3', o4'], c⟩ ∧ (t1' = .own (JL (allrows (j + k))) ∨ t1' = .leaf (.lst (JL (allrows (j + k)))))
  | 0, j, t1, o2, o3, o4, _, h => ⟨t1, o2, o3, o4, by simp, h⟩
  | k + 1, j, t1, o2, o3, o4, hj, h => by
    have hlen := allrows_len j
    have hp := pow_big (w := j) (by omega)
    obtain ⟨o5, e⟩ := all_rows_in (P := P) (n := n) (c := c) [] j (by omega) (some (.leaf (.lst (JL (allrows j))))) (some (.leaf (.int j))) v (allrows j) [] o4 (fun r hr => (allrows_mem.1 hr).1) (by simp [hlen]; omega)
    obtain ⟨t1', o2', o3', o4', ih, ht⟩ := all_rows_out v k (j + 1) (.leaf (.lst (JL (allrows (j + 1))))) (some (.leaf (.int j))) (some (.leaf (.lst (JL (allrows (j + 1)))))) o5 (by omega) (.inr rfl)
    refine ⟨t1', o2', o3', o4', ?_, by rw [show j + (k + 1) = j + 1 + k by omega]; exact ht⟩
    rw [List.range'_succ, List.map_cons, ← ih]
    rcases h with rfl | rfl
    · simp at e
      simp [e]
      rfl
    · simp at e
      simp [e]
      rfl
theorem c_all_rows (w : Nat) (hw : w ≤ 12) : ∃ b, callF tb P (n + 1) 37 [.int w] c = .ok b c ∧ b.d = .lst (JL (allrows w)) := by
  rw [r__law_all_rows]
  obtain ⟨t1', o2', o3', o4', e, ht⟩ := all_rows_out (P := P) (n := n) (c := c) (.int w) w 0 (.own (JL (allrows 0))) none none none (by omega) (.inl rfl)
  rw [← List.range_eq_range'] at e
  have hrng := rng_nat (F := callF tb P n) (a := .var 0) (z := true) (k := w) (s := ⟨[some (.leaf (.int w)), some (.own [.tup []]), none, none, none], c⟩) (s1 := ⟨[some (.leaf (.int w)), some (.own [.tup []]), none, none, none], c⟩) (by simp) (by unfold big; omega)
  have e0 : JL (allrows 0) = [D.tup []] := rfl
  rw [e0] at e
  rw [Nat.zero_add] at ht
  rcases ht with rfl | rfl
  · exact ⟨_, by simp [hrng, e]; rfl, rfl⟩
  · exact ⟨_, by simp [hrng, e]; rfl, rfl⟩
theorem c_rows_with (m : Nat) (k : Int) (hm : m ≤ 12) : callF tb P (n + 1) 17 [.int m, .int k] c = .ok (.new (JL (rowsW m k))) c := by
  rw [r_rows_with]
  have body : ∀ (j : Nat) (o : Option T), j + 1 ≤ 12 → execs P (callF tb P n) [.asg (.var 2) (.comp2 [4, 5] [5] (.var 4) (.var 2) (.con (.bl true)) (.var 5) (.tup [.con (.int 0), .con (.int 1)]) (.con (.bl true)) (.bin .add (.var 4) (.tup [.var 5])))]
      ⟨[some (.leaf (.int m)), some (.leaf (.int k)), some (.own (JL (allrows j))), o, none, none], c⟩ = .nx ⟨[some (.leaf (.int m)), some (.leaf (.int k)), some (.own (JL (allrows (j + 1)))), o, none, none], c⟩ := by
    intro j o hj
    have hp := pow_big (w := j + 1) hj
    have c2 := comp2_J (γ := List Int) (F := callF tb P n) (g := .var 4) (it := .var 2) (g1 := .var 5) (it1 := .tup [.con (.int 0), .con (.int 1)]) (e := .bin .add (.var 4) (.tup [.var 5])) (vs := [4, 5]) (vs1 := [5])
      (s := ⟨[some (.leaf (.int m)), some (.leaf (.int k)), some (.own (JL (allrows j))), o, none, none], c⟩) (s2 := ⟨[some (.leaf (.int m)), some (.leaf (.int k)), some (.own (JL (allrows j))), o, none, none], c⟩)
      em D.int (fun _ => [0, 1]) (fun s x => s ++ [x]) (fun s => ⟨[some (.leaf (.int m)), some (.leaf (.int k)), some (.own (JL (allrows j))), o, some (.leaf (.tup (JL s))), none], c⟩) (l := allrows j)
      (by simp; rfl) rfl rfl (by
        have e : ((allrows j).flatMap fun _ => [(0 : Int), 1]).length = 2 ^ (j + 1) := by
          have h1 := allrows_len j
          have h2 : ∀ l : List (List Int), (l.flatMap fun _ => [(0 : Int), 1]).length = 2 * l.length := by
            intro l
            induction l with
            | nil => rfl
            | cons _ _ ih => simp [ih]; omega
          rw [h2, h1, Nat.pow_succ]; omega
        rw [e]; unfold big; omega)
      (fun s hs => by simp [wipe]) (fun s hs => by simp) (fun s hs x hx => by
        have hl := (allrows_mem.1 hs).1
        have ha := op_snoc s x (by omega)
        simp [turn1, wipe, ha]) (fun s hs => by simp [wipe])
    simp [c2, wipe, back, allrows]
  have key : ∀ (l : List D) (j : Nat) (o : Option T), j + l.length ≤ 12 → ∃ o', forL (ev (callF tb P n) (.var 3)).g (execs P (callF tb P n) [.asg (.var 2) (.comp2 [4, 5] [5] (.var 4) (.var 2) (.con (.bl true)) (.var 5) (.tup [.con (.int 0), .con (.int 1)]) (.con (.bl true)) (.bin .add (.var 4) (.tup [.var 5])))]) l
      ⟨[some (.leaf (.int m)), some (.leaf (.int k)), some (.own (JL (allrows j))), o, none, none], c⟩ = .nx ⟨[some (.leaf (.int m)), some (.leaf (.int k)), some (.own (JL (allrows (j + l.length)))), o', none, none], c⟩ := by
    intro l
    induction l with
    | nil => intro j o _; exact ⟨o, rfl⟩
    | cons x l ih =>
      intro j o hj
      simp only [List.length_cons] at hj
      obtain ⟨o', e⟩ := ih (j + 1) (some (.leaf x)) (by omega)
      refine ⟨o', ?_⟩
      rw [forL_cons, var_g, if_pos (by simp), out_ok]
      simp only [List.set_cons_succ, List.set_cons_zero, bt_val]
      rw [body j (some (.leaf x)) (by omega), forO_nx, e, List.length_cons]
      rw [show j + 1 + l.length = j + (l.length + 1) by omega]
  obtain ⟨o', e⟩ := key ((List.range m).map fun (j : Nat) => .int (j : Int)) 0 none (by simp; exact hm)
  have hrng := rng_nat (F := callF tb P n) (a := .var 0) (z := true) (k := m) (s := ⟨[some (.leaf (.int m)), some (.leaf (.int k)), some (.own [.tup []]), none, none, none], c⟩) (s1 := ⟨[some (.leaf (.int m)), some (.leaf (.int k)), some (.own [.tup []]), none, none, none], c⟩) (by simp) (by unfold big; omega)
  rw [List.length_map, List.length_range, Nat.zero_add] at e
  have e' : forL (ev (callF tb P n) (.var 3)).g _ _ ⟨[some (.leaf (.int m)), some (.leaf (.int k)), some (.own [.tup []]), none, none, none], c⟩ = _ := e
  have hp := pow_big (w := m) hm
  have c1 := comp_F (F := callF tb P n) (g := .var 4) (it := .var 2) (c := .cmp .eq (.bi .sum [.var 4]) (.var 1)) (e := .var 4) (vs := [4])
    (s := ⟨[some (.leaf (.int m)), some (.leaf (.int k)), some (.own (JL (allrows m))), o', none, none], c⟩) (s2 := ⟨[some (.leaf (.int m)), some (.leaf (.int k)), some (.own (JL (allrows m))), o', none, none], c⟩)
    em (fun r => decide (r.sum = k)) (fun r => r) (l := allrows m) (by simp; rfl) rfl (by rw [allrows_len]; unfold big; omega) (fun r hr => by
      by_cases q : r.sum = k <;> simp [turn1, wipe, q])
  rw [List.map_id'] at c1
  simp [hrng, e', c1, wipe, back, rowsW]
theorem zip_less : ∀ l a : List Int, (l.zip a).map (fun p => p.1 - p.2) = lessRow l a
  | [], a => rfl
  | x :: l, [] => rfl
  | x :: l, y :: a => by
    simp only [List.zip_cons_cons, List.map_cons, zip_less l a]; rfl
theorem ks_len (m : Dc) : (ksOf m).length = m.length := List.length_map _
theorem tc_less {o0 o1 o2 o3 o4 o7 o8 : Option T} {l a : List Int} (hb : l.length ≤ 1000) :
    (ev (callF tb P n) (.comp [9, 10] (.tup [.var 9, .var 10]) (.zip [.var 6, .var 5]) (.con (.bl true)) (.bin .sub (.var 9) (.var 10)))).b ⟨[o0, o1, o2, o3, o4, some (.leaf (.tup (JL a))), some (.leaf (.tup (JL l))), o7, o8, none, none], c⟩ = .ok (.new (JL (lessRow l a))) ⟨[o0, o1, o2, o3, o4, some (.leaf (.tup (JL a))), some (.leaf (.tup (JL l))), o7, o8, none, none], c⟩ := by
  have hc := comp_J (F := callF tb P n) (g := .tup [.var 9, .var 10]) (it := .zip [.var 6, .var 5]) (e := .bin .sub (.var 9) (.var 10)) (vs := [9, 10])
    (s := ⟨[o0, o1, o2, o3, o4, some (.leaf (.tup (JL a))), some (.leaf (.tup (JL l))), o7, o8, none, none], c⟩) (s2 := ⟨[o0, o1, o2, o3, o4, some (.leaf (.tup (JL a))), some (.leaf (.tup (JL l))), o7, o8, none, none], c⟩) em (fun p => p.1 - p.2) (l := l.zip a) (by
      simp [allItems?, zip_two]) rfl (by rw [List.length_zip]; unfold big; omega) (fun x hx => by
      obtain ⟨x1, x2⟩ := x
      simp [turn1, wipe, em_pair])
  rw [hc, zip_less]
  simp [wipe, back]
/-- one row of marks, from each row left on -/
theorem tc_in {o0 o1 o3 : Option T} {r a : List Int} {j : Nat} {W : Dc} (ha : M01 r.length a) (hr : r.length ≤ 6) (hj : j + 1 ≤ 6) : ∀ (ways later : Dc) (o6 o7 o8 : Option T), Kb r j ways → Kb r (j + 1) later →
    ∃ o6' o7' o8', forL (ev (callF tb P n) (.tup [.var 6, .var 7])).g (execs P (callF tb P n) [.asg (.var 8) (.bi .tuple [.comp [9, 10] (.tup [.var 9, .var 10]) (.zip [.var 6, .var 5]) (.con (.bl true)) (.bin .sub (.var 9) (.var 10))]), .dput 4 (.var 8) (.bin .add (.dget (.var 4) (.var 8) (.con (.int 0))) (.var 7))]) (List.zipWith (fun k v => .tup [keyD k, v]) (ksOf ways) (vsOf ways))
      ⟨[o0, o1, some (.leaf (.dct true (ksOf W) (vsOf W))), o3, some (.dct (ksOf later) (vsOf later)), some (.leaf (.tup (JL a))), o6, o7, o8, none, none], c⟩ =
      .nx ⟨[o0, o1, some (.leaf (.dct true (ksOf W) (vsOf W))), o3, some (.dct (ksOf (stepM a ways later)) (vsOf (stepM a ways later))), some (.leaf (.tup (JL a))), o6', o7', o8', none, none], c⟩
  | [], later, o6, o7, o8, _, _ => ⟨o6, o7, o8, rfl⟩
  | p :: ways, later, o6, o7, o8, hw, hl => by
    have hp := hw.2 p.1 List.mem_cons_self
    have hw2 : Kb r j ways := ⟨(List.nodup_cons.1 hw.1).2, fun k hk => hw.2 k (List.mem_cons_of_mem _ hk)⟩
    obtain ⟨o6', o7', o8', e⟩ := tc_in (W := W) ha hr hj ways (put later (lessRow p.1 a) (lk later (lessRow p.1 a) + p.2)) (some (.leaf (.tup (JL p.1)))) (some (.leaf (.int p.2))) (some (.leaf (.tup (JL (lessRow p.1 a))))) hw2 (hl.put (Bel.less hp ha))
    refine ⟨o6', o7', o8', ?_⟩
    have hz : List.zipWith (fun k v => D.tup [keyD k, v]) (ksOf (p :: ways)) (vsOf (p :: ways)) = D.tup [.tup (JL p.1), .int p.2] :: List.zipWith (fun k v => .tup [keyD k, v]) (ksOf ways) (vsOf ways) := rfl
    have hb : (ksOf later).length < big := by
      have h1 := hl.len
      have h2 : (j + 1 + 1) ^ r.length ≤ 7 ^ 6 := Nat.le_trans (Nat.pow_le_pow_left (by omega) _) (Nat.pow_le_pow_right (by omega) hr)
      rw [ks_len]; unfold big; omega
    have hc := tc_less (P := P) (n := n) (c := c) (o0 := o0) (o1 := o1) (o2 := some (.leaf (.dct true (ksOf W) (vsOf W)))) (o3 := o3) (o4 := some (.dct (ksOf later) (vsOf later))) (o7 := some (.leaf (.int p.2))) (o8 := o8) (l := p.1) (a := a) (by have := hp.len; omega)
    have hd := dPut_put later (lessRow p.1 a) (lk later (lessRow p.1 a) + p.2)
    rw [hz]
    simp [hc, dAt_lk, dput2_d hb, hd.1, hd.2]
    exact e
theorem tc_mid {o0 o1 o3 : Option T} {r : List Int} {j : Nat} {W : Dc} (hr : r.length ≤ 6) (hj : j + 1 ≤ 6) (hW : Kb r j W) : ∀ (A : List (List Int)) (later : Dc) (s2 : T) (o5 o6 o7 o8 : Option T), (∀ a ∈ A, M01 r.length a) → (s2 = .dct (ksOf W) (vsOf W) ∨ s2 = .leaf (.dct true (ksOf W) (vsOf W))) → Kb r (j + 1) later →
    ∃ o2' o5' o6' o7' o8', forL (ev (callF tb P n) (.var 5)).g (execs P (callF tb P n) [.lock 2, .for_ (.tup [.var 6, .var 7]) (.ditems 2) [.asg (.var 8) (.bi .tuple [.comp [9, 10] (.tup [.var 9, .var 10]) (.zip [.var 6, .var 5]) (.con (.bl true)) (.bin .sub (.var 9) (.var 10))]), .dput 4 (.var 8) (.bin .add (.dget (.var 4) (.var 8) (.con (.int 0))) (.var 7))]]) (JL A)
      ⟨[o0, o1, some s2, o3, some (.dct (ksOf later) (vsOf later)), o5, o6, o7, o8, none, none], c⟩ =
      .nx ⟨[o0, o1, o2', o3, some (.dct (ksOf (stepC A W later)) (vsOf (stepC A W later))), o5', o6', o7', o8', none, none], c⟩
  | [], later, s2, o5, o6, o7, o8, _, _, _ => ⟨some s2, o5, o6, o7, o8, rfl⟩
  | a :: A, later, s2, o5, o6, o7, o8, ha, hs, hl => by
    obtain ⟨o6a, o7a, o8a, e1⟩ := tc_in (P := P) (n := n) (c := c) (o0 := o0) (o1 := o1) (o3 := o3) (W := W) (ha a List.mem_cons_self) hr hj W later o6 o7 o8 hW hl
    obtain ⟨o2', o5', o6', o7', o8', e2⟩ := tc_mid (o0 := o0) (o1 := o1) (o3 := o3) hr hj hW A (stepM a W later) (.leaf (.dct true (ksOf W) (vsOf W))) (some (.leaf (.tup (JL a)))) o6a o7a o8a (fun b hb => ha b (List.mem_cons_of_mem _ hb)) (.inr rfl) (Kb.stepM (ha a List.mem_cons_self) hW hl)
    refine ⟨o2', o5', o6', o7', o8', ?_⟩
    have e3 : stepC (a :: A) W later = stepC A W (stepM a W later) := rfl
    rw [e3, ← e2, JL_cons]
    rcases hs with rfl | rfl
    · simp [e1]
    · simp [e1]
theorem rowsW_len (m : Nat) (k : Int) (hm : m ≤ 12) : (rowsW m k).length ≤ 4096 := by
  have h1 := List.length_filter_le (fun r : List Int => decide (r.sum = k)) (allrows m)
  have h2 := allrows_len m
  have h3 := pow_big hm
  unfold rowsW; omega
theorem tc_out {o0 : Option T} {r : List Int} (hr : r.length ≤ 6) : ∀ (cs : List Int) (j : Nat) (W : Dc) (o3 o4 o5 o6 o7 o8 : Option T), j + cs.length ≤ 6 → Kb r j W →
    ∃ o3' o4' o5' o6' o7' o8', forL (ev (callF tb P (n + 1)) (.var 3)).g (execs P (callF tb P (n + 1)) [.asg (.var 4) (.dnew), .for_ (.var 5) (.call 17 [.bi .len [.var 1], .var 3]) [.lock 2, .for_ (.tup [.var 6, .var 7]) (.ditems 2) [.asg (.var 8) (.bi .tuple [.comp [9, 10] (.tup [.var 9, .var 10]) (.zip [.var 6, .var 5]) (.con (.bl true)) (.bin .sub (.var 9) (.var 10))]), .dput 4 (.var 8) (.bin .add (.dget (.var 4) (.var 8) (.con (.int 0))) (.var 7))]], .move 2 4]) (JL cs)
      ⟨[o0, some (.leaf (.tup (JL r))), some (.dct (ksOf W) (vsOf W)), o3, o4, o5, o6, o7, o8, none, none], c⟩ =
      .nx ⟨[o0, some (.leaf (.tup (JL r))), some (.dct (ksOf (runC (cs.map (rowsW r.length)) W)) (vsOf (runC (cs.map (rowsW r.length)) W))), o3', o4', o5', o6', o7', o8', none, none], c⟩
  | [], j, W, o3, o4, o5, o6, o7, o8, _, _ => ⟨o3, o4, o5, o6, o7, o8, rfl⟩
  | k :: cs, j, W, o3, o4, o5, o6, o7, o8, hj, hW => by
    simp only [List.length_cons] at hj
    have hA : ∀ a ∈ rowsW r.length k, M01 r.length a := fun a ha => (rowsW_mem.1 ha).1
    obtain ⟨o2', o5', o6', o7', o8', e1⟩ := tc_mid (P := P) (n := n + 1) (c := c) (o0 := o0) (o1 := some (.leaf (.tup (JL r)))) (o3 := some (.leaf (.int k))) hr (by omega) hW (rowsW r.length k) [] (.dct (ksOf W) (vsOf W)) o5 o6 o7 o8 hA (.inl rfl) (Kb.nil r (j + 1))
    have hw2 : Kb r (j + 1) (stepC (rowsW r.length k) W []) := Kb.stepC hW hA (Kb.nil r (j + 1))
    obtain ⟨o3a, o4a, o5a, o6a, o7a, o8a, e2⟩ := tc_out (o0 := o0) hr cs (j + 1) (stepC (rowsW r.length k) W []) (some (.leaf (.int k))) none o5' o6' o7' o8' (by omega) hw2
    refine ⟨o3a, o4a, o5a, o6a, o7a, o8a, ?_⟩
    have e3 : runC ((k :: cs).map (rowsW r.length)) W = runC (cs.map (rowsW r.length)) (stepC (rowsW r.length k) W []) := rfl
    have e4 := c_rows_with (P := P) (n := n) (c := c) r.length k (by omega)
    rw [e3, ← e2, JL_cons]
    have hk0 : ksOf [] = [] := rfl
    have hv0 : vsOf [] = [] := rfl
    rw [hk0, hv0] at e1
    simp [e4]
    rw [e1]
    simp
theorem op_zeros (m : Nat) (h : m ≤ 12) : binop .mul (.tup [.int 0]) (.int m) = some (.val (.tup (JL (zeros m)))) := by
  rw [op_mulT (by simp) (by omega) (by omega), Int.toNat_natCast]
  have : ∀ k : Nat, rep k [D.int 0] = JL (zeros k) := by
    intro k
    induction k with
    | zero => rfl
    | succ k ih =>
      have e : rep (k + 1) [D.int 0] = D.int 0 :: rep k [D.int 0] := by unfold rep; rw [List.replicate_succ]; rfl
      rw [e, ih]; rfl
  rw [this]
theorem c_tables_counted (cs r : List Int) (hr : r.length ≤ 6) (hc : cs.length ≤ 6) : callF tb P (n + 2) 18 [.tup (JL cs), .tup (JL r)] c = .ok (.val (.int (Mc r.length cs r))) c := by
  rw [r_tables_counted]
  obtain ⟨o3a, o4a, o5a, o6a, o7a, o8a, e⟩ := tc_out (P := P) (n := n) (c := c) (o0 := some (.leaf (.tup (JL cs)))) hr cs 0 [(r, 1)] none none none none none none (by omega) (Kb.start r)
  have e1 : ksOf [(r, (1 : Int))] = [r] := rfl
  have e2 : vsOf [(r, (1 : Int))] = [.int 1] := rfl
  rw [e1, e2] at e
  have e3 := op_zeros r.length (by omega)
  have e4 := runC_count (cs := cs) (r := r) (n := r.length) rfl
  simp [e, e3, dAt_lk, e4]
theorem c_need_two_counts (xs ys : List Int) (m : Int) (hx : xs.length ≤ big) (hy : ys.length ≤ big) : callF tb P (n + 5) 19 [.tup (JL xs), .tup (JL ys), .int m] c = if (fitc xs && decide ((xs.length : Int) ≤ m)) && (fitc ys && decide ((ys.length : Int) ≤ m)) then .ok (.val .non) c else .exc 1 c := by
  rw [r_need_two_counts]
  have e1 := c_need_counts (P := P) (n := n) (c := c) xs m hx
  have e2 := c_need_counts (P := P) (n := n) (c := c) ys m hy
  cases q1 : (fitc xs && decide ((xs.length : Int) ≤ m))
  · rw [q1] at e1
    simp [e1]
  · rw [q1] at e1
    cases q2 : (fitc ys && decide ((ys.length : Int) ≤ m))
    · rw [q2] at e2
      simp [e1, e2]
    · rw [q2] at e2
      simp [e1, e2]
theorem c_count_mark_tables (cs r : List Int) (f1 : fitc cs = true) (f2 : fitc r = true) (hr : r.length ≤ 6) (hc : cs.length ≤ 6) : callF tb P (n + 6) 25 [.tup (JL cs), .tup (JL r)] c = .ok (.val (.int (Mc r.length cs r))) c := by
  rw [r_count_mark_tables]
  have e1 := c_need_two_counts (P := P) (n := n) (c := c) cs r 6 (by unfold big; omega) (by unfold big; omega)
  rw [f1, f2, decide_eq_true (by omega), decide_eq_true (by omega)] at e1
  have e2 := c_tables_counted (P := P) (n := n + 3) (c := c) cs r hr hc
  simp [e1, e2]
theorem lc_less {o0 o1 o2 o3 o4 o7 : Option T} {l a : List Int} (hb : l.length ≤ 1000) :
    (ev (callF tb P n) (.comp [8, 9] (.tup [.var 8, .var 9]) (.zip [.var 6, .var 5]) (.con (.bl true)) (.bin .sub (.var 8) (.var 9)))).b ⟨[o0, o1, o2, o3, o4, some (.leaf (.tup (JL a))), some (.leaf (.tup (JL l))), o7, none, none], c⟩ = .ok (.new (JL (lessRow l a))) ⟨[o0, o1, o2, o3, o4, some (.leaf (.tup (JL a))), some (.leaf (.tup (JL l))), o7, none, none], c⟩ := by
  have hc := comp_J (F := callF tb P n) (g := .tup [.var 8, .var 9]) (it := .zip [.var 6, .var 5]) (e := .bin .sub (.var 8) (.var 9)) (vs := [8, 9])
    (s := ⟨[o0, o1, o2, o3, o4, some (.leaf (.tup (JL a))), some (.leaf (.tup (JL l))), o7, none, none], c⟩) (s2 := ⟨[o0, o1, o2, o3, o4, some (.leaf (.tup (JL a))), some (.leaf (.tup (JL l))), o7, none, none], c⟩) em (fun p => p.1 - p.2) (l := l.zip a) (by
      simp [allItems?, zip_two]) rfl (by rw [List.length_zip]; unfold big; omega) (fun x hx => by
      obtain ⟨x1, x2⟩ := x
      simp [turn1, wipe, em_pair])
  rw [hc, zip_less]
  simp [wipe, back]
theorem lc_in {o0 o1 o3 : Option T} {r a : List Int} {j : Nat} {W : Dc} (ha : M01 r.length a) (hr : r.length ≤ 6) (hj : j + 1 ≤ 6) (hW : Kb r j W) : ∀ (ways later : Dc) (o6 o7 : Option T), (∀ p ∈ ways, p ∈ W) → Kb r (j + 1) later →
    ∃ o6' o7', forL (ev (callF tb P n) (.var 6)).g (execs P (callF tb P n) [.asg (.var 7) (.bi .tuple [.comp [8, 9] (.tup [.var 8, .var 9]) (.zip [.var 6, .var 5]) (.con (.bl true)) (.bin .sub (.var 8) (.var 9))]), .dput 4 (.var 7) (.bin .add (.dget (.var 4) (.var 7) (.con (.int 0))) (.dix (.var 2) (.var 6)))]) ((ksOf ways).map keyD)
      ⟨[o0, o1, some (.leaf (.dct true (ksOf W) (vsOf W))), o3, some (.dct (ksOf later) (vsOf later)), some (.leaf (.tup (JL a))), o6, o7, none, none], c⟩ =
      .nx ⟨[o0, o1, some (.leaf (.dct true (ksOf W) (vsOf W))), o3, some (.dct (ksOf (stepM a ways later)) (vsOf (stepM a ways later))), some (.leaf (.tup (JL a))), o6', o7', none, none], c⟩
  | [], later, o6, o7, _, _ => ⟨o6, o7, rfl⟩
  | p :: ways, later, o6, o7, hw, hl => by
    have hpm := hw p List.mem_cons_self
    have hp := hW.2 p.1 (List.mem_map.2 ⟨p, hpm, rfl⟩)
    obtain ⟨o6', o7', e⟩ := lc_in ha hr hj hW ways (put later (lessRow p.1 a) (lk later (lessRow p.1 a) + p.2)) (some (.leaf (.tup (JL p.1)))) (some (.leaf (.tup (JL (lessRow p.1 a))))) (fun q hq => hw q (List.mem_cons_of_mem _ hq)) (hl.put (Bel.less hp ha))
    refine ⟨o6', o7', ?_⟩
    have hz : (ksOf (p :: ways)).map keyD = D.tup (JL p.1) :: (ksOf ways).map keyD := rfl
    have hb : (ksOf later).length < big := by
      have h1 := hl.len
      have h2 : (j + 1 + 1) ^ r.length ≤ 7 ^ 6 := Nat.le_trans (Nat.pow_le_pow_left (by omega) _) (Nat.pow_le_pow_right (by omega) hr)
      rw [ks_len]; unfold big; omega
    have hc := lc_less (P := P) (n := n) (c := c) (o0 := o0) (o1 := o1) (o2 := some (.leaf (.dct true (ksOf W) (vsOf W)))) (o3 := o3) (o4 := some (.dct (ksOf later) (vsOf later))) (o7 := o7) (l := p.1) (a := a) (by have := hp.len; omega)
    have hd := dPut_put later (lessRow p.1 a) (lk later (lessRow p.1 a) + p.2)
    have hx := dAt_mem hW.1 hpm
    rw [hz]
    simp [hc, dAt_lk, dput2_d hb, hd.1, hd.2, dAtO_J, hx]
    exact e
theorem lc_mid {o0 o1 : Option T} {r : List Int} {j : Nat} {W : Dc} {k : Int} (hr : r.length ≤ 6) (hj : j + 1 ≤ 6) (hW : Kb r j W) : ∀ (A : List (List Int)) (later : Dc) (s2 : T) (o5 o6 o7 : Option T), (∀ a ∈ A, M01 r.length a) → (s2 = .dct (ksOf W) (vsOf W) ∨ s2 = .leaf (.dct true (ksOf W) (vsOf W))) → Kb r (j + 1) later →
    ∃ o2' o5' o6' o7', forL (ev (callF tb P n) (.var 5)).g (execs P (callF tb P n) [.ifs (.cmp .eq (.bi .sum [.var 5]) (.var 3)) [.lock 2, .for_ (.var 6) (.dkeys 2) [.asg (.var 7) (.bi .tuple [.comp [8, 9] (.tup [.var 8, .var 9]) (.zip [.var 6, .var 5]) (.con (.bl true)) (.bin .sub (.var 8) (.var 9))]), .dput 4 (.var 7) (.bin .add (.dget (.var 4) (.var 7) (.con (.int 0))) (.dix (.var 2) (.var 6)))]] []]) (JL A)
      ⟨[o0, o1, some s2, some (.leaf (.int k)), some (.dct (ksOf later) (vsOf later)), o5, o6, o7, none, none], c⟩ =
      .nx ⟨[o0, o1, o2', some (.leaf (.int k)), some (.dct (ksOf (stepC (A.filter fun r => decide (r.sum = k)) W later)) (vsOf (stepC (A.filter fun r => decide (r.sum = k)) W later))), o5', o6', o7', none, none], c⟩
  | [], later, s2, o5, o6, o7, _, _, _ => ⟨some s2, o5, o6, o7, rfl⟩
  | a :: A, later, s2, o5, o6, o7, ha, hs, hl => by
    have hA : ∀ b ∈ A, M01 r.length b := fun b hb => ha b (List.mem_cons_of_mem _ hb)
    by_cases q : a.sum = k
    · obtain ⟨o6a, o7a, e1⟩ := lc_in (P := P) (n := n) (c := c) (o0 := o0) (o1 := o1) (o3 := some (.leaf (.int k))) (W := W) (ha a List.mem_cons_self) hr hj hW W later o6 o7 (fun p hp => hp) hl
      obtain ⟨o2', o5', o6', o7', e2⟩ := lc_mid (o0 := o0) (o1 := o1) (k := k) hr hj hW A (stepM a W later) (.leaf (.dct true (ksOf W) (vsOf W))) (some (.leaf (.tup (JL a)))) o6a o7a hA (.inr rfl) (Kb.stepM (ha a List.mem_cons_self) hW hl)
      refine ⟨o2', o5', o6', o7', ?_⟩
      rw [List.filter_cons_of_pos (by simpa using q)]
      have e3 : ∀ B, stepC (a :: B) W later = stepC B W (stepM a W later) := fun _ => rfl
      rw [e3, ← e2, JL_cons]
      rcases hs with rfl | rfl
      · simp [e1, q]
      · simp [e1, q]
    · obtain ⟨o2', o5', o6', o7', e2⟩ := lc_mid (o0 := o0) (o1 := o1) (k := k) hr hj hW A later s2 (some (.leaf (.tup (JL a)))) o6 o7 hA hs hl
      refine ⟨o2', o5', o6', o7', ?_⟩
      rw [List.filter_cons_of_neg (by simpa using q)]
      rw [← e2, JL_cons]
      simp [q]
theorem lc_out {r : List Int} (hr : r.length ≤ 6) {o1 : Option T} : ∀ (cs : List Int) (j : Nat) (W : Dc) (o3 o4 o5 o6 o7 : Option T), j + cs.length ≤ 6 → Kb r j W →
    ∃ o3' o4' o5' o6' o7', forL (ev (callF tb P (n + 1)) (.var 3)).g (execs P (callF tb P (n + 1)) [.asg (.var 4) (.dnew), .for_ (.var 5) (.call 37 [.bi .len [.var 0]]) [.ifs (.cmp .eq (.bi .sum [.var 5]) (.var 3)) [.lock 2, .for_ (.var 6) (.dkeys 2) [.asg (.var 7) (.bi .tuple [.comp [8, 9] (.tup [.var 8, .var 9]) (.zip [.var 6, .var 5]) (.con (.bl true)) (.bin .sub (.var 8) (.var 9))]), .dput 4 (.var 7) (.bin .add (.dget (.var 4) (.var 7) (.con (.int 0))) (.dix (.var 2) (.var 6)))]] []], .move 2 4]) (JL cs)
      ⟨[some (.leaf (.tup (JL r))), o1, some (.dct (ksOf W) (vsOf W)), o3, o4, o5, o6, o7, none, none], c⟩ =
      .nx ⟨[some (.leaf (.tup (JL r))), o1, some (.dct (ksOf (runC (cs.map (rowsW r.length)) W)) (vsOf (runC (cs.map (rowsW r.length)) W))), o3', o4', o5', o6', o7', none, none], c⟩
  | [], j, W, o3, o4, o5, o6, o7, _, _ => ⟨o3, o4, o5, o6, o7, rfl⟩
  | k :: cs, j, W, o3, o4, o5, o6, o7, hj, hW => by
    simp only [List.length_cons] at hj
    have hA : ∀ a ∈ rowsW r.length k, M01 r.length a := fun a ha => (rowsW_mem.1 ha).1
    obtain ⟨o2', o5', o6', o7', e1⟩ := lc_mid (P := P) (n := n + 1) (c := c) (o0 := some (.leaf (.tup (JL r)))) (o1 := o1) (k := k) hr (by omega) hW (allrows r.length) [] (.dct (ksOf W) (vsOf W)) o5 o6 o7 (fun a ha => allrows_mem.1 ha) (.inl rfl) (Kb.nil r (j + 1))
    have hw2 : Kb r (j + 1) (stepC (rowsW r.length k) W []) := Kb.stepC hW hA (Kb.nil r (j + 1))
    obtain ⟨o3a, o4a, o5a, o6a, o7a, e2⟩ := lc_out hr (o1 := o1) cs (j + 1) (stepC (rowsW r.length k) W []) (some (.leaf (.int k))) none o5' o6' o7' (by omega) hw2
    refine ⟨o3a, o4a, o5a, o6a, o7a, ?_⟩
    have e3 : runC ((k :: cs).map (rowsW r.length)) W = runC (cs.map (rowsW r.length)) (stepC (rowsW r.length k) W []) := rfl
    obtain ⟨b, e4, e5⟩ := c_all_rows (P := P) (n := n) (c := c) r.length (by omega)
    rw [e3, ← e2, JL_cons]
    have hk0 : ksOf [] = [] := rfl
    have hv0 : vsOf [] = [] := rfl
    rw [hk0, hv0] at e1
    have e6 : (allrows r.length).filter (fun r => decide (r.sum = k)) = rowsW r.length k := rfl
    rw [e6] at e1
    simp [e4, e5]
    rw [e1]
    simp
theorem c_law_count (r cs : List Int) (hr : r.length ≤ 6) (hc : cs.length ≤ 6) : callF tb P (n + 2) 38 [.tup (JL r), .tup (JL cs)] c = .ok (.val (.int (Mc r.length cs r))) c := by
  rw [r__law_count]
  obtain ⟨o3a, o4a, o5a, o6a, o7a, e⟩ := lc_out (P := P) (n := n) (c := c) hr (o1 := some (.leaf (.tup (JL cs)))) cs 0 [(r, 1)] none none none none none (by omega) (Kb.start r)
  have e1 : ksOf [(r, (1 : Int))] = [r] := rfl
  have e2 : vsOf [(r, (1 : Int))] = [.int 1] := rfl
  rw [e1, e2] at e
  have e3 := op_zeros r.length (by omega)
  have e4 := runC_count (cs := cs) (r := r) (n := r.length) rfl
  simp [e, e3, dAt_lk, e4]
end Lw

/-! counts that can be marked, plain -/
namespace Lw
open PySem Ev
variable {P : Par} {n : Nat} {c : Cup}
theorem cut_to {α : Type} [Em α] (xs : List α) (k : Nat) : cut (JL xs) none (some (k : Int)) = JL (xs.take k) := by
  unfold cut slIx
  simp only [JL_len]
  rw [if_neg (by omega), Int.toNat_natCast, List.drop_zero, Nat.sub_zero, JL_take]
  congr 1
  rcases Nat.le_total k xs.length with h | h
  · rw [Nat.min_eq_left h]
  · rw [Nat.min_eq_right h, List.take_length, List.take_of_length_le h]
theorem enum_R (xs : List Int) : enumD 0 (JL xs) = (List.range xs.length).map fun (j : Nat) => D.tup [.int j, .int (itAt xs j)] := by
  have key : ∀ (l : List Int) (k : Nat), enumD k (JL l) = (List.range l.length).map fun (j : Nat) => D.tup [.int ((k + j : Nat) : Int), .int (itAt l j)] := by
    intro l
    induction l with
    | nil => intro k; rfl
    | cons x l ih =>
      intro k
      show D.tup [.int k, .int x] :: enumD (k + 1) (JL l) = _
      rw [ih, List.length_cons, List.range_succ_eq_map, List.map_cons, List.map_map]
      congr 1
      apply List.map_congr_left
      intro j _
      show D.tup [.int ((k + 1 + j : Nat) : Int), .int (itAt l j)] = D.tup [.int ((k + (j + 1) : Nat) : Int), .int (itAt (x :: l) (j + 1))]
      have e1 : k + 1 + j = k + (j + 1) := by omega
      have e2 : itAt (x :: l) (j + 1) = itAt l j := by simp [itAt]
      rw [e1, e2]
  have := key xs 0
  simpa using this
theorem isin_ints (x : Int) (xs : List Int) : cmpop .isin (.int x) (.lst (JL xs)) = some (xs.contains x) := by
  have ok : eqOk (.int x) (.lst (JL xs)) = true := by
    unfold eqOk
    rw [okI, okD_lst, okDs_JL (by decide)]; rfl
  have e : isinD (.int x) (JL xs) = xs.contains x := by
    unfold isinD JL
    rw [List.any_map]
    induction xs with
    | nil => rfl
    | cons y xs ih =>
      rw [List.any_cons, List.contains_cons, ih (by unfold eqOk; rw [okI, okD_lst, okDs_JL (by decide)]; rfl)]
      congr 1
      show eqD (.int y) (.int x) = (x == y)
      rw [eqII, Bool.eq_iff_iff, beq_iff_eq, beq_iff_eq]
      exact eq_comm
  show (if eqOk (.int x) (.lst (JL xs)) then some (isinD (.int x) (JL xs)) else none) = _
  rw [ok, e]; rfl
theorem at_last {α : Type} [Em α] (xs : List α) (x : α) : at? (JL (xs ++ [x])) (-1) = some (em x) := at_JLlast _ x (by simp)
theorem c_mark_counts_inL {w : Nat} (t : List (List Int)) (h : GT w t) : callF tb P (n + 1) 13 [.lst (JL t)] c = .ok (.val (.tup [.tup (JL (t.map List.sum)), .tup (JL (cols w t))])) c := by
  rw [r_mark_counts_in]
  have c1 := comp_J (F := callF tb P n) (g := .var 1) (it := .var 0) (e := .bi .sum [.var 1]) (vs := [1])
    (s := ⟨[some (.leaf (.lst (JL t))), none, none], c⟩) (s2 := ⟨[some (.leaf (.lst (JL t))), none, none], c⟩) em List.sum (l := t) rfl rfl h.big (fun r hr => by
      simp [turn1, wipe])
  have c2 := comp_J (F := callF tb P n) (g := .var 2) (it := .zipS (.var 0)) (e := .bi .sum [.var 2]) (vs := [2])
    (s := ⟨[some (.leaf (.lst (JL t))), none, none], c⟩) (s2 := ⟨[some (.leaf (.lst (JL t))), none, none], c⟩) (fun j => em (t.map fun r => itAt r j)) (fun j => (t.map fun r => itAt r j).sum) (l := List.range w) (by
      rw [zipS_i]
      simp [sOne, allItems_rows]
      exact zipN_tab t h.ne fun r hr => (h.2.2 r hr).1) rfl (by rw [List.length_range]; have := h.2.1.2; unfold Ev.big; omega) (fun r hr => by
      simp [turn1, wipe])
  simp [c1, wipe, back, c2]
  simp [em_pair, cols]
theorem mk_turn (R C : D) (L : List Int) (F : List (List Int)) (r : Nat) (o5 o6 : Option T) (hL : L.length ≤ 1000) (hF : F.length ≤ 1000) :
    execs P (callF tb P n) [.asg (.var 5) (.bi .sorted [.comp [8, 7] (.tup [.var 8, .var 7]) (.enum (.var 3)) (.con (.bl true)) (.tup [.neg (.var 7), .var 8])]), .asg (.var 6) (.comp [7, 8] (.tup [.var 7, .var 8]) (.sl (.var 5) (.con .non) (.var 2)) (.con (.bl true)) (.var 8)), .append 4 (.bi .tuple [.comp [8] (.var 8) (.rng (.bi .len [.var 3])) (.con (.bl true)) (.ife (.cmp .isin (.var 8) (.var 6)) (.con (.int 1)) (.con (.int 0)))]), .asg (.var 3) (.comp [7, 9] (.tup [.var 7, .var 9]) (.zip [.var 3, .ix (.var 4) (.neg (.con (.int 1)))]) (.con (.bl true)) (.bin .sub (.var 7) (.var 9)))]
      ⟨[some (.leaf R), some (.leaf C), some (.leaf (.int r)), some (.own (JL L)), some (.own (JL F)), o5, o6, none, none, none], c⟩ =
      .nx ⟨[some (.leaf R), some (.leaf C), some (.leaf (.int r)), some (.own (JL (lessRow L (mrow L r)))), some (.own (JL (F ++ [mrow L r]))), some (.own (JL (sortP (lackP L)))), some (.own (JL (taken L r))), none, none, none], c⟩ := by
  have hbig : L.length ≤ big := by unfold big; omega
  have c1 := comp_J (F := callF tb P n) (g := .tup [.var 8, .var 7]) (it := .enum (.var 3)) (e := .tup [.neg (.var 7), .var 8]) (vs := [8, 7])
    (s := ⟨[some (.leaf R), some (.leaf C), some (.leaf (.int r)), some (.own (JL L)), some (.own (JL F)), o5, o6, none, none, none], c⟩) (s2 := ⟨[some (.leaf R), some (.leaf C), some (.leaf (.int r)), some (.own (JL L)), some (.own (JL F)), o5, o6, none, none, none], c⟩)
    (fun (j : Nat) => D.tup [.int j, .int (itAt L j)]) (fun (j : Nat) => (-(itAt L j), (j : Int))) (l := List.range L.length) (by
      rw [enum_own (xs := L) rfl, enum_R]; rfl) rfl (by rw [List.length_range]; exact hbig) (fun j hj => by
      simp [turn1, wipe, em_pair])
  have c1' : (List.range L.length).map (fun (j : Nat) => (-(itAt L j), (j : Int))) = lackP L := rfl
  rw [c1'] at c1
  have hs := bi_sortP (lackP L)
  have hsl : (sortP (lackP L)).length = L.length := by rw [(soP_perm _).length_eq]; simp [lackP]
  have c2 := comp_J (F := callF tb P n) (g := .tup [.var 7, .var 8]) (it := .sl (.var 5) (.con .non) (.var 2)) (e := .var 8) (vs := [7, 8])
    (s := ⟨[some (.leaf R), some (.leaf C), some (.leaf (.int r)), some (.own (JL L)), some (.own (JL F)), some (.own (JL (sortP (lackP L)))), o6, none, none, none], c⟩) (s2 := ⟨[some (.leaf R), some (.leaf C), some (.leaf (.int r)), some (.own (JL L)), some (.own (JL F)), some (.own (JL (sortP (lackP L)))), o6, none, none, none], c⟩)
    em (fun p : Int × Int => p.2) (l := (sortP (lackP L)).take r) (by
      simp [cut_to]; exact (JL_take _ _).symm) rfl (by rw [List.length_take, hsl]; omega) (fun p hp => by
      obtain ⟨x, y⟩ := p
      simp [turn1, wipe, em_pair])
  have c2' : ((sortP (lackP L)).take r).map (fun p : Int × Int => p.2) = taken L r := rfl
  rw [c2'] at c2
  have c3 := comp_J (F := callF tb P n) (g := .var 8) (it := .rng (.bi .len [.var 3])) (e := .ife (.cmp .isin (.var 8) (.var 6)) (.con (.int 1)) (.con (.int 0))) (vs := [8])
    (s := ⟨[some (.leaf R), some (.leaf C), some (.leaf (.int r)), some (.own (JL L)), some (.own (JL F)), some (.own (JL (sortP (lackP L)))), some (.own (JL (taken L r))), none, none, none], c⟩) (s2 := ⟨[some (.leaf R), some (.leaf C), some (.leaf (.int r)), some (.own (JL L)), some (.own (JL F)), some (.own (JL (sortP (lackP L)))), some (.own (JL (taken L r))), none, none, none], c⟩)
    (fun (j : Nat) => D.int j) (fun (j : Nat) => if (taken L r).contains (j : Int) then (1 : Int) else 0) (l := List.range L.length) (rng_nat (by simp) hbig) rfl (by rw [List.length_range]; exact hbig) (fun j hj => by
      by_cases q : (j : Int) ∈ taken L r <;> simp [turn1, wipe, isin_ints, q])
  have c3' : (List.range L.length).map (fun (j : Nat) => if (taken L r).contains (j : Int) then (1 : Int) else 0) = mrow L r := rfl
  rw [c3'] at c3
  have c4 := comp_J (F := callF tb P n) (g := .tup [.var 7, .var 9]) (it := .zip [.var 3, .ix (.var 4) (.neg (.con (.int 1)))]) (e := .bin .sub (.var 7) (.var 9)) (vs := [7, 9])
    (s := ⟨[some (.leaf R), some (.leaf C), some (.leaf (.int r)), some (.own (JL L)), some (.own (JL (F ++ [mrow L r]))), some (.own (JL (sortP (lackP L)))), some (.own (JL (taken L r))), none, none, none], c⟩) (s2 := ⟨[some (.leaf R), some (.leaf C), some (.leaf (.int r)), some (.own (JL L)), some (.own (JL (F ++ [mrow L r]))), some (.own (JL (sortP (lackP L)))), some (.own (JL (taken L r))), none, none, none], c⟩)
    em (fun p => p.1 - p.2) (l := L.zip (mrow L r)) (by
      simp [at_last, allItems?, zip_two]) rfl (by rw [List.length_zip]; omega) (fun p hp => by
      obtain ⟨x, y⟩ := p
      simp [turn1, wipe, em_pair])
  rw [zip_less] at c4
  have hj : JL F ++ [D.tup (JL (mrow L r))] = JL (F ++ [mrow L r]) := JL_snoc F (mrow L r)
  have hb : F.length < big := by unfold big; omega
  simp [c1, wipe, back, hs, c2, c3, hj, hb, c4]
theorem mk_for (R C : D) : ∀ (rs L : List Int) (F : List (List Int)) (o2 o5 o6 : Option T), (∀ r ∈ rs, 0 ≤ r) → L.length ≤ 1000 → F.length + rs.length ≤ 1000 →
    ∃ o2' o5' o6', forL (ev (callF tb P n) (.var 2)).g (execs P (callF tb P n) [.asg (.var 5) (.bi .sorted [.comp [8, 7] (.tup [.var 8, .var 7]) (.enum (.var 3)) (.con (.bl true)) (.tup [.neg (.var 7), .var 8])]), .asg (.var 6) (.comp [7, 8] (.tup [.var 7, .var 8]) (.sl (.var 5) (.con .non) (.var 2)) (.con (.bl true)) (.var 8)), .append 4 (.bi .tuple [.comp [8] (.var 8) (.rng (.bi .len [.var 3])) (.con (.bl true)) (.ife (.cmp .isin (.var 8) (.var 6)) (.con (.int 1)) (.con (.int 0)))]), .asg (.var 3) (.comp [7, 9] (.tup [.var 7, .var 9]) (.zip [.var 3, .ix (.var 4) (.neg (.con (.int 1)))]) (.con (.bl true)) (.bin .sub (.var 7) (.var 9)))]) (JL rs)
      ⟨[some (.leaf R), some (.leaf C), o2, some (.own (JL L)), some (.own (JL F)), o5, o6, none, none, none], c⟩ =
      .nx ⟨[some (.leaf R), some (.leaf C), o2', some (.own (JL (gtab L rs).2)), some (.own (JL (F ++ (gtab L rs).1))), o5', o6', none, none, none], c⟩
  | [], L, F, o2, o5, o6, _, _, _ => ⟨o2, o5, o6, by simp [gtab]⟩
  | r :: rs, L, F, o2, o5, o6, h0, hL, hF => by
    simp only [List.length_cons] at hF
    have hr := h0 r List.mem_cons_self
    obtain ⟨r, rfl⟩ := Int.eq_ofNat_of_zero_le hr
    obtain ⟨o2', o5', o6', e⟩ := mk_for R C rs (lessRow L (mrow L r)) (F ++ [mrow L r]) (some (.leaf (.int r))) (some (.own (JL (sortP (lackP L))))) (some (.own (JL (taken L r)))) (fun x hx => h0 x (List.mem_cons_of_mem _ hx)) (by rw [lessRow_len]; exact hL) (by simp; omega)
    refine ⟨o2', o5', o6', ?_⟩
    have e1 := mk_turn (P := P) (n := n) (c := c) R C L F r o5 o6 hL (by omega)
    rw [JL_cons, forL_cons, em_int, var_g, if_pos (by simp), out_ok]
    simp only [List.set_cons_succ, List.set_cons_zero, bt_val]
    rw [e1, forO_nx, e]
    simp [gtab]
/-- the table that has the counts, if any -/
def mkD (R C : List Int) : D := if (gtab C R).1.map List.sum = R ∧ cols C.length (gtab C R).1 = C then .tup (JL (gtab C R).1) else .non
theorem c_marked_in (R C : List Int) (h0 : ∀ r ∈ R, 0 ≤ r) (r1 : 1 ≤ R.length) (r2 : R.length ≤ 12) (c1 : 1 ≤ C.length) (c2 : C.length ≤ 12) : callF tb P (n + 2) 16 [.tup (JL R), .tup (JL C)] c = .ok (.val (mkD R C)) c := by
  rw [r_marked_in]
  obtain ⟨o2', o5', o6', e⟩ := mk_for (P := P) (n := n + 1) (c := c) (.tup (JL R)) (.tup (JL C)) R C [] none none none h0 (by omega) (by simp; omega)
  have g := gtab_GT (l := C) (rs := R) r1 r2 c1 c2
  have e1 := c_mark_counts_inL (P := P) (n := n) (c := c) _ g
  rw [List.nil_append] at e
  have e2 := cmp_eqE (α := List Int × List Int) (by decide) ((gtab C R).1.map List.sum, cols C.length (gtab C R).1) (R, C)
  simp only [em_pair, em_list] at e2
  rw [JL_nil] at e
  unfold mkD
  by_cases q : (gtab C R).1.map List.sum = R ∧ cols C.length (gtab C R).1 = C
  · have q' : ((gtab C R).1.map List.sum, cols C.length (gtab C R).1) = (R, C) := by rw [q.1, q.2]
    rw [decide_eq_true q'] at e2
    rw [if_pos q]
    simp [e, e1, e2]
  · have q' : ¬ ((gtab C R).1.map List.sum, cols C.length (gtab C R).1) = (R, C) := by
      intro e; rw [Prod.mk.injEq] at e; exact q e
    rw [decide_eq_false q'] at e2
    rw [if_neg q]
    simp [e, e1, e2]
end Lw

/-! mark breaks, plain -/
namespace Lw
open PySem Ev
variable {P : Par} {n : Nat} {c : Cup}
def sumD : D := .tup [.str "sum"]
def colD (m : Nat) : D := .tup [.str "columns", .int m]
/-- the numbers of columns that ask for too much -/
def brkN (R C : List Int) : List Nat := ((List.range C.length).filter fun (j : Nat) => decide (mins ((1 + j : Nat) : Int) R < top (1 + j) C)).map fun j => 1 + j
def brks (R C : List Int) : List D := (if R.sum = C.sum then [] else [sumD]) ++ (brkN R C).map colD
theorem brkN_mem {R C : List Int} {m : Nat} : m ∈ brkN R C ↔ (1 ≤ m ∧ m ≤ C.length) ∧ mins m R < top m C := by
  unfold brkN
  rw [List.mem_map]
  refine ⟨fun ⟨j, hj, e⟩ => ?_, fun ⟨⟨h1, h2⟩, h⟩ => ⟨m - 1, ?_, by omega⟩⟩
  · rw [List.mem_filter, List.mem_range, decide_eq_true_iff] at hj
    subst e
    exact ⟨⟨by omega, by omega⟩, hj.2⟩
  · rw [List.mem_filter, List.mem_range, decide_eq_true_iff, show 1 + (m - 1) = m by omega]
    exact ⟨by omega, h⟩
theorem brks_nil {R C : List Int} (h0 : ∀ x ∈ R, 0 ≤ x) : brks R C = [] ↔ Pm R C := by
  rw [pm_iff1 h0]
  unfold brks
  rw [List.append_eq_nil_iff, List.map_eq_nil_iff]
  refine and_congr ⟨fun h => ?_, fun h => if_pos h⟩ ⟨fun h k h1 h2 => ?_, fun h => ?_⟩
  · by_cases q : R.sum = C.sum
    · exact q
    · rw [if_neg q] at h; cases h
  · rcases Int.lt_or_le (mins k R) (top k C) with q | q
    · have := brkN_mem.2 ⟨⟨h1, h2⟩, q⟩
      rw [h] at this; cases this
    · exact q
  · apply List.eq_nil_iff_forall_not_mem.2
    intro m hm
    have := brkN_mem.1 hm
    have := h m this.1.1 this.1.2
    omega
theorem sortR_fall (xs : List Int) : (sortI xs).reverse = fall xs := rfl
theorem take_sum (k : Nat) (C : List Int) : ((fall C).take k).sum = top k C := rfl
theorem c_mark_breaks_in (R C : List Int) (h0 : ∀ x ∈ R, 0 ≤ x) (r2 : R.length ≤ 12) (c2 : C.length ≤ 12) : callF tb P (n + 2) 15 [.tup (JL R), .tup (JL C)] c = .ok (.new (brks R C)) c := by
  rw [r_mark_breaks_in]
  have key : ∀ o2 : Option T, (ev (callF tb P (n + 1)) (.comp [4] (.var 4) (.rng2 (.con (.int 1)) (.bin .add (.bi .len [.var 1]) (.con (.int 1)))) (.cmp .gt (.bi .sum [.sl (.var 3) (.con .non) (.var 4)]) (.bi .sum [.call 14 [.var 0, .var 4]])) (.var 4))).b ⟨[some (.leaf (.tup (JL R))), some (.leaf (.tup (JL C))), o2, some (.own (JL (fall C))), none, none], c⟩ =
      .ok (.new (JL ((brkN R C).map fun (m : Nat) => (m : Int)))) ⟨[some (.leaf (.tup (JL R))), some (.leaf (.tup (JL C))), o2, some (.own (JL (fall C))), none, none], c⟩ := by
    intro o2
    have c1 := comp_F (F := callF tb P (n + 1)) (g := .var 4) (it := .rng2 (.con (.int 1)) (.bin .add (.bi .len [.var 1]) (.con (.int 1)))) (c := .cmp .gt (.bi .sum [.sl (.var 3) (.con .non) (.var 4)]) (.bi .sum [.call 14 [.var 0, .var 4]])) (e := .var 4) (vs := [4])
      (s := ⟨[some (.leaf (.tup (JL R))), some (.leaf (.tup (JL C))), o2, some (.own (JL (fall C))), none, none], c⟩) (s2 := ⟨[some (.leaf (.tup (JL R))), some (.leaf (.tup (JL C))), o2, some (.own (JL (fall C))), none, none], c⟩)
      (fun (j : Nat) => D.int ((1 + j : Nat) : Int)) (fun (j : Nat) => decide (mins ((1 + j : Nat) : Int) R < top (1 + j) C)) (fun (j : Nat) => ((1 + j : Nat) : Int)) (l := List.range C.length) (by
        have := rng2_nat (F := callF tb P (n + 1)) (a := .con (.int 1)) (b := .bin .add (.bi .len [.var 1]) (.con (.int 1))) (z := false) (l := 1) (h := C.length + 1) (s := ⟨[some (.leaf (.tup (JL R))), some (.leaf (.tup (JL C))), o2, some (.own (JL (fall C))), none, none], c⟩) (s1 := ⟨[some (.leaf (.tup (JL R))), some (.leaf (.tup (JL C))), o2, some (.own (JL (fall C))), none, none], c⟩) (s2 := ⟨[some (.leaf (.tup (JL R))), some (.leaf (.tup (JL C))), o2, some (.own (JL (fall C))), none, none], c⟩) (by simp) (by simp) (by unfold big; omega) (by unfold big; omega)
        rw [Nat.add_sub_cancel] at this
        exact this) rfl (by rw [List.length_range]; unfold big; omega) (fun j hj => by
        have hj := List.mem_range.1 hj
        have e := c_over_in (P := P) (n := n) (c := c) R (1 + j) (by unfold big; omega) (by unfold big; omega)
        have e2 := over_sum R h0 (1 + j)
        have e3 : (R.map fun x => min x ((1 + j : Nat) : Int)).sum = mins ((1 + j : Nat) : Int) R := rfl
        rw [e3] at e2
        have e4 := cut_to (fall C) (1 + j)
        by_cases q : mins ((1 + j : Nat) : Int) R < top (1 + j) C
        · simp only [turn1, wipe]
          simp only [var_g]
          rw [if_pos (by simp)]
          simp only [bind_ok, List.set_cons_succ, List.set_cons_zero, bt_val]
          simp [-Int.natCast_add, e, e2, e4, take_sum, q]
        · simp only [turn1, wipe]
          simp only [var_g]
          rw [if_pos (by simp)]
          simp only [bind_ok, List.set_cons_succ, List.set_cons_zero, bt_val]
          simp [-Int.natCast_add, e, e2, e4, take_sum, q])
    have e5 : ((List.range C.length).filter fun (j : Nat) => decide (mins ((1 + j : Nat) : Int) R < top (1 + j) C)).map (fun (j : Nat) => ((1 + j : Nat) : Int)) = (brkN R C).map fun (m : Nat) => (m : Int) := by
      unfold brkN
      rw [List.map_map]; rfl
    rw [e5] at c1
    rw [c1]
    simp [wipe, back]
  have c3 : ∀ (o2 : Option T), (ev (callF tb P (n + 1)) (.comp [5] (.var 5) (.var 4) (.con (.bl true)) (.tup [.con (.str "columns"), .var 5]))).b ⟨[some (.leaf (.tup (JL R))), some (.leaf (.tup (JL C))), o2, some (.own (JL (fall C))), some (.own (JL ((brkN R C).map fun (m : Nat) => (m : Int)))), none], c⟩ =
      .ok (.new ((brkN R C).map colD)) ⟨[some (.leaf (.tup (JL R))), some (.leaf (.tup (JL C))), o2, some (.own (JL (fall C))), some (.own (JL ((brkN R C).map fun (m : Nat) => (m : Int)))), none], c⟩ := by
    intro o2
    have c1 := comp_map (F := callF tb P (n + 1)) (g := .var 5) (it := .var 4) (c := .con (.bl true)) (e := .tup [.con (.str "columns"), .var 5]) (vs := [5])
      (s := ⟨[some (.leaf (.tup (JL R))), some (.leaf (.tup (JL C))), o2, some (.own (JL (fall C))), some (.own (JL ((brkN R C).map fun (m : Nat) => (m : Int)))), none], c⟩) (s2 := ⟨[some (.leaf (.tup (JL R))), some (.leaf (.tup (JL C))), o2, some (.own (JL (fall C))), some (.own (JL ((brkN R C).map fun (m : Nat) => (m : Int)))), none], c⟩)
      (fun (m : Nat) => D.int (m : Int)) colD (l := brkN R C) (by simp [JL]) rfl (by
        have h1 : (brkN R C).length ≤ C.length := by
          unfold brkN
          rw [List.length_map]
          have := List.length_filter_le (fun (j : Nat) => decide (mins ((1 + j : Nat) : Int) R < top (1 + j) C)) (List.range C.length)
          rwa [List.length_range] at this
        unfold big; omega) (fun m hm => by
        simp [turn1, wipe, colD])
    rw [c1]
    simp [wipe, back]
  have hb : ([sumD] : List D).length + ((brkN R C).map colD).length ≤ big := by
    have h1 : (brkN R C).length ≤ C.length := by
      unfold brkN
      rw [List.length_map]
      have := List.length_filter_le (fun (j : Nat) => decide (mins ((1 + j : Nat) : Int) R < top (1 + j) C)) (List.range C.length)
      rwa [List.length_range] at this
    rw [List.length_map]; unfold big; simp; omega
  unfold brks
  by_cases q : R.sum = C.sum
  · have ha := op_addL (xs := []) (ys := (brkN R C).map colD) (by have := hb; simp only [List.length_cons, List.length_nil] at this ⊢; omega)
    simp [q, key, c3, sortR_fall, ha]
  · have ha := op_addL (xs := [sumD]) (ys := (brkN R C).map colD) hb
    have hs : D.tup [D.str "sum"] = sumD := rfl
    simp [q, key, c3, sortR_fall, hs, ha]
end Lw

/-! the marktables' judges -/
namespace Lw
open PySem Ev
variable {P : Par} {n : Nat} {c : Cup}
theorem at_0 (x : D) (xs : List D) : at? (x :: xs) 0 = some x := by
  unfold at? place
  rw [if_pos (by omega), if_pos (by simp)]; rfl
theorem at_1 (x y : D) (xs : List D) : at? (x :: y :: xs) 1 = some y := by
  unfold at? place
  rw [if_pos (by omega), if_pos (by simp; omega)]; rfl
/-- counts -/
def Ct (xs : List Int) : Prop := (1 ≤ xs.length ∧ xs.length ≤ 12) ∧ ∀ x ∈ xs, 0 ≤ x ∧ x ≤ 12
theorem Ct.fit {xs : List Int} (h : Ct xs) : fitc xs = true := by
  unfold fitc
  rw [within_ok (by have := h.1.1; omega) (by have := h.1.2; omega), Bool.true_and, List.all_eq_true]
  intro x hx
  have := h.2 x hx
  exact within_ok this.1 this.2
theorem Ct.nn {xs : List Int} (h : Ct xs) : ∀ x ∈ xs, 0 ≤ x := fun x hx => (h.2 x hx).1
theorem brkN_len (R C : List Int) : (brkN R C).length ≤ C.length := by
  unfold brkN
  rw [List.length_map]
  have := List.length_filter_le (fun (j : Nat) => decide (mins ((1 + j : Nat) : Int) R < top (1 + j) C)) (List.range C.length)
  rwa [List.length_range] at this
theorem brks_AP (R C : List Int) : AP 1 (1 + C.length) (brks R C) := by
  unfold brks
  refine AP.app ?_ ⟨by rw [List.length_map]; exact brkN_len R C, fun x hx => ?_⟩
  · split
    · exact (AP.nil 1).mono (Nat.le_refl _) (by omega)
    · exact AP.cons (.tup 0 _ (by unfold big; simp) (.cons (.str 0 _ (by decide +kernel)) (.nil 0))) (AP.nil 1)
  · obtain ⟨m, _, rfl⟩ := List.mem_map.1 hx
    exact .tup 0 _ (by unfold big; simp) (.cons (.str 0 _ (by decide +kernel)) (.cons (.int 0 _) (.nil 0)))
theorem two_fit {R C : List Int} (h : Ct R) (g : Ct C) : callF tb P (n + 5) 19 [.tup (JL R), .tup (JL C), .int 12] c = .ok (.val .non) c := by
  have h1 := h.1
  have g1 := g.1
  rw [c_need_two_counts R C 12 (by unfold big; omega) (by unfold big; omega), h.fit, g.fit, decide_eq_true (by omega), decide_eq_true (by omega)]
  rfl
theorem c_can_be_marked {R C : List Int} (h : Ct R) (g : Ct C) : callF tb P (n + 6) 21 [.tup (JL R), .tup (JL C)] c = .ok (.val (.bl (brks R C).isEmpty)) c := by
  rw [r_can_be_marked]
  have e1 := two_fit (P := P) (n := n) (c := c) h g
  have e2 := c_mark_breaks_in (P := P) (n := n + 3) (c := c) R C h.nn h.1.2 g.1.2
  have e3 := cmp_eqNil (xs := brks R C) (okDs_pl (brks_AP R C).2 (by omega))
  simp [e1, e2, e3]
theorem c_mark_table {R C : List Int} (h : Ct R) (g : Ct C) : callF tb P (n + 6) 22 [.tup (JL R), .tup (JL C)] c = .ok (.val (mkD R C)) c := by
  rw [r_mark_table]
  have e1 := two_fit (P := P) (n := n) (c := c) h g
  have e2 := c_marked_in (P := P) (n := n + 3) (c := c) R C h.nn h.1.1 h.1.2 g.1.1 g.1.2
  simp [e1, e2]
def hd0 : List D → D
  | [] => .non
  | x :: _ => x
theorem c_mark_break {R C : List Int} (h : Ct R) (g : Ct C) : callF tb P (n + 6) 23 [.tup (JL R), .tup (JL C)] c = .ok (.val (hd0 (brks R C))) c := by
  rw [r_mark_break]
  have e1 := two_fit (P := P) (n := n) (c := c) h g
  have e2 := c_mark_breaks_in (P := P) (n := n + 3) (c := c) R C h.nn h.1.2 g.1.2
  have e3 := cmp_neNil (xs := brks R C) (okDs_pl (brks_AP R C).2 (by omega))
  cases q : brks R C with
  | nil =>
    rw [q] at e2 e3
    simp [e1, e2, e3, hd0]
  | cons x xs =>
    rw [q] at e2 e3
    have ha := at_0 x xs
    simp [e1, e2, e3, hd0, ha]
def isS : D → Bool
  | .str _ => true
  | _ => false
/-- a break's own look -/
def mbD (R C : List Int) (v : D) : Bool := match v with
  | .tup [a] => isS a && isinD v (brks R C)
  | .tup [a, b] => isS a && (isW 1 (C.length : Int) b && isinD v (brks R C))
  | _ => false
theorem isin_pl {k j N : Nat} {v : D} {xs : List D} (hv : PlD k v) (hk : k ≤ 63) (hx : AP j N xs) (hj : j ≤ 62) : cmpop .isin v (.lst xs) = some (isinD v xs) := by
  have ok : eqOk v (.lst xs) = true := by
    unfold eqOk
    rw [hv.ok 64 (by omega), okD_lst, okDs_pl hx.2 (by omega)]; rfl
  show (if eqOk v (.lst xs) then some (isinD v xs) else none) = _
  rw [ok]; rfl
theorem notin_pl {k j N : Nat} {v : D} {xs : List D} (hv : PlD k v) (hk : k ≤ 63) (hx : AP j N xs) (hj : j ≤ 62) : cmpop .notin v (.lst xs) = some (!isinD v xs) := by
  have ok : eqOk v (.lst xs) = true := by
    unfold eqOk
    rw [hv.ok 64 (by omega), okD_lst, okDs_pl hx.2 (by omega)]; rfl
  show (if eqOk v (.lst xs) then some (!isinD v xs) else none) = _
  rw [ok]; rfl
theorem isTy_str {k : Nat} {d : D} (h : PlD k d) : isTy .str d = some (isS d) := by cases h <;> rfl
theorem c_is_mark_break {R C : List Int} {k : Nat} {v : D} (h : Ct R) (g : Ct C) (hv : PlD k v) (hk : k ≤ 60) : callF tb P (n + 6) 24 [.tup (JL R), .tup (JL C), v] c = .ok (.val (.bl (mbD R C v))) c := by
  rw [r_is_mark_break]
  have e1 := two_fit (P := P) (n := n) (c := c) h g
  have e2 := c_mark_breaks_in (P := P) (n := n + 3) (c := c) R C h.nn h.1.2 g.1.2
  have e3 := g_is_tuple_of (P := P) (n := n + 4) (c := c) hv 1 2
  have e4 := isin_pl hv (by omega) (brks_AP R C) (by omega)
  cases hv with
  | tup j xs hb hx =>
    match xs, hb, hx with
    | [], _, _ =>
      have : tupOf 1 2 (.tup []) = false := rfl
      rw [this] at e3
      simp [e1, e3, mbD]
    | [a], _, hx =>
      have : tupOf 1 2 (.tup [a]) = true := rfl
      rw [this] at e3
      have e5 := isTy_str (hx a List.mem_cons_self)
      simp [e1, e3, at_0, e5, mbD]
      cases isS a
      · simp
      · simp [e2, e4]
    | [a, b], _, hx =>
      have : tupOf 1 2 (.tup [a, b]) = true := rfl
      rw [this] at e3
      have e5 := isTy_str (hx a List.mem_cons_self)
      have e6 := g_is_whole (P := P) (n := n + 3) (c := c) (hx b (List.mem_cons_of_mem _ List.mem_cons_self)) 1 (C.length : Int)
      simp [e1, e3, at_0, at_1, e5, mbD]
      cases isS a
      · simp
      · cases q : isW 1 (C.length : Int) b
        · rw [q] at e6
          simp [e6, at_1]
        · rw [q] at e6
          simp [e6, at_1, e2, e4]
    | a :: b :: d :: xs, _, _ =>
      have : tupOf 1 2 (.tup (a :: b :: d :: xs)) = false := by
        show within 1 2 _ = false
        unfold within
        rw [decide_eq_false (by simp; omega : ¬ ((a :: b :: d :: xs).length : Int) ≤ 2)]; simp
      rw [this] at e3
      simp [e1, e3, mbD]
  | _ =>
    simp [tupOf] at e3
    simp [e1, e3, mbD]
/-- as the law looks -/
def gdD (R C : List Int) (v : D) : Bool := match v with
  | .tup xs => (xs.drop 1).all (fun d => decide (srt d = 2)) && isinD v (brks R C)
  | _ => false
theorem eqDs_len : ∀ {xs ys : List D}, eqDs xs ys = true → xs.length = ys.length
  | [], [], _ => rfl
  | x :: xs, y :: ys, h => by
    rw [eqDs_cons, Bool.and_eq_true] at h
    simp [eqDs_len h.2]
  | [], y :: ys, h => by rw [eqDs_nc] at h; cases h
  | y :: ys, [], h => by rw [eqDs_cn] at h; cases h
theorem isin_brks {R C : List Int} {v : D} : isinD v (brks R C) = true ↔ (R.sum ≠ C.sum ∧ eqD sumD v = true) ∨ ∃ m, m ∈ brkN R C ∧ eqD (colD m) v = true := by
  unfold isinD brks
  rw [List.any_eq_true]
  refine ⟨fun ⟨x, hx, e⟩ => ?_, fun h => ?_⟩
  · rcases List.mem_append.1 hx with hx | hx
    · split at hx
      · cases hx
      · rename_i q
        rw [List.mem_singleton] at hx
        subst hx
        exact .inl ⟨q, e⟩
    · obtain ⟨m, hm, rfl⟩ := List.mem_map.1 hx
      exact .inr ⟨m, hm, e⟩
  · rcases h with ⟨q, e⟩ | ⟨m, hm, e⟩
    · exact ⟨sumD, List.mem_append.2 (.inl (by rw [if_neg q]; exact List.mem_cons_self)), e⟩
    · exact ⟨colD m, List.mem_append.2 (.inr (List.mem_map.2 ⟨m, hm, rfl⟩)), e⟩
theorem eq_str {s : Str} {a : D} (h : eqD (.str s) a = true) : isS a = true := by
  cases a <;> simp [eqD] at h <;> rfl
theorem eq_int {m : Int} {b : D} (h : eqD (.int m) b = true) (hb : srt b = 2) {k : Nat} (hp : PlD k b) : b = .int m := by
  cases hp <;> simp [srt] at hb
  rw [eqII] at h
  have := eq_of_beq h
  rw [this]
theorem mb_gd {R C : List Int} {k : Nat} {v : D} (hv : PlD k v) : mbD R C v = gdD R C v := by
  cases hv with
  | tup j xs hb hx =>
    match xs, hx with
    | [], _ =>
      show false = (([] : List D).all (fun d => decide (srt d = 2)) && isinD (.tup []) (brks R C))
      have : isinD (.tup []) (brks R C) = false := by
        rw [Bool.eq_false_iff]
        intro h
        rcases isin_brks.1 h with ⟨_, e⟩ | ⟨m, _, e⟩
        · have := eqDs_len (show eqDs [.str "sum"] [] = true from by rw [← eqD_tup]; exact e)
          simp at this
        · have := eqDs_len (show eqDs [.str "columns", .int m] [] = true from by rw [← eqD_tup]; exact e)
          simp at this
      rw [this]; simp
    | [a], hx =>
      show (isS a && isinD (.tup [a]) (brks R C)) = (true && isinD (.tup [a]) (brks R C))
      cases q : isinD (.tup [a]) (brks R C) with
      | false => simp
      | true =>
        have : isS a = true := by
          rcases isin_brks.1 q with ⟨_, e⟩ | ⟨m, _, e⟩
          · have e' : eqDs [.str "sum"] [a] = true := by rw [← eqD_tup]; exact e
            rw [eqDs_cons, Bool.and_eq_true] at e'
            exact eq_str e'.1
          · have := eqDs_len (show eqDs [.str "columns", .int m] [a] = true from by rw [← eqD_tup]; exact e)
            simp at this
        rw [this]
    | [a, b], hx =>
      show (isS a && (isW 1 (C.length : Int) b && isinD (.tup [a, b]) (brks R C))) = ([b].all (fun d => decide (srt d = 2)) && isinD (.tup [a, b]) (brks R C))
      cases q : isinD (.tup [a, b]) (brks R C) with
      | false => simp
      | true =>
        have hb := hx b (List.mem_cons_of_mem _ List.mem_cons_self)
        have : ∃ m, m ∈ brkN R C ∧ isS a = true ∧ eqD (.int m) b = true := by
          rcases isin_brks.1 q with ⟨_, e⟩ | ⟨m, hm, e⟩
          · have := eqDs_len (show eqDs [.str "sum"] [a, b] = true from by rw [← eqD_tup]; exact e)
            simp at this
          · have e' : eqDs [.str "columns", .int m] [a, b] = true := by rw [← eqD_tup]; exact e
            rw [eqDs_cons, eqDs_cons, Bool.and_eq_true, Bool.and_eq_true] at e'
            exact ⟨m, hm, eq_str e'.1, e'.2.1⟩
        obtain ⟨m, hm, h1, h2⟩ := this
        rw [h1]
        by_cases q2 : srt b = 2
        · have := eq_int h2 q2 hb
          subst this
          have hm' := (brkN_mem.1 hm).1
          have : isW 1 (C.length : Int) (.int m) = true := within_ok (by omega) (by omega)
          rw [this]
          simp [srt]
        · have : isW 1 (C.length : Int) b = false := by
            cases hb <;> first | rfl | exact absurd rfl q2
          rw [this]
          simp [q2]
    | a :: b :: d :: xs, _ =>
      show false = (_ && isinD (.tup (a :: b :: d :: xs)) (brks R C))
      have : isinD (.tup (a :: b :: d :: xs)) (brks R C) = false := by
        rw [Bool.eq_false_iff]
        intro h
        rcases isin_brks.1 h with ⟨_, e⟩ | ⟨m, _, e⟩
        · have := eqDs_len (show eqDs [.str "sum"] (a :: b :: d :: xs) = true from by rw [← eqD_tup]; exact e)
          simp at this
        · have := eqDs_len (show eqDs [.str "columns", .int m] (a :: b :: d :: xs) = true from by rw [← eqD_tup]; exact e)
          simp at this
      rw [this]; simp
  | _ => rfl
end Lw

/-! a value with something else at some place -/
namespace Lw
open PySem Ev
variable {P : Par} {n : Nat} {c : Cup}
/-- plain, short tuples -/
inductive PlS : Nat → D → Prop where
  | non (k : Nat) : PlS k .non
  | bl (k : Nat) (b : Bool) : PlS k (.bl b)
  | int (k : Nat) (i : Int) : PlS k (.int i)
  | str (k : Nat) (s : Str) : PyData.strOk s = true → PlS k (.str s)
  | tup (k : Nat) (xs : List D) : xs.length ≤ 100 → (∀ x ∈ xs, PlS k x) → PlS (k + 1) (.tup xs)
theorem PlS.pl {k : Nat} {d : D} (h : PlS k d) : PlD k d := by
  induction h with
  | non k => exact .non k
  | bl k b => exact .bl k b
  | int k i => exact .int k i
  | str k s h => exact .str k s h
  | tup k xs hb _ ih => exact .tup k xs (by unfold big; omega) ih
theorem PlS.row {k : Nat} {xs : List Int} (h : xs.length ≤ 100) : PlS (k + 1) (.tup (JL xs)) := .tup k _ (by rw [JL_len]; exact h) fun x hx => by
  obtain ⟨y, _, rfl⟩ := List.mem_map.1 hx
  exact .int k y
theorem PlS.tab {k : Nat} {t : List (List Int)} (h : t.length ≤ 100) (hr : ∀ r ∈ t, r.length ≤ 100) : PlS (k + 2) (.tup (JL t)) := .tup (k + 1) _ (by rw [JL_len]; exact h) fun x hx => by
  obtain ⟨r, hm, rfl⟩ := List.mem_map.1 hx
  exact .row (hr r hm)
theorem cut_len (xs : List D) (l h : Option Int) : (cut xs l h).length ≤ xs.length := by
  unfold cut
  rw [List.length_take, List.length_drop]; omega
theorem cut_mem {xs : List D} {l h : Option Int} {x : D} (hx : x ∈ cut xs l h) : x ∈ xs := List.mem_of_mem_drop (List.mem_of_mem_take hx)
theorem at_nat {xs : List D} {i : Nat} (h : i < xs.length) : at? xs (i : Int) = some xs[i] := by
  unfold at? place
  rw [if_pos (by omega), if_pos (by omega)]
  show xs[((i : Int)).toNat]? = _
  rw [Int.toNat_natCast, List.getElem?_eq_getElem h]
theorem c_some {xs : List D} (h1 : 1 ≤ xs.length) (h2 : xs.length ≤ 1000) (hc : GC c) : ∃ (x : D) (c' : Cup), callF tb P (n + 2) 28 [.cup, .lst xs] c = .ok (.val x) c' ∧ x ∈ xs ∧ GC c' := by
  rw [r__law_some]
  obtain ⟨r, c', e, ⟨b1, b2⟩, g⟩ := c_roll (P := P) (n := n) xs.length (by omega) (by omega) hc
  obtain ⟨r, rfl⟩ := Int.eq_ofNat_of_zero_le b1
  have hl : r < xs.length := by omega
  have ha := at_nat hl
  refine ⟨xs[r], c', ?_, List.getElem_mem hl, g⟩
  simp [e, ha, kept_GC hc g]
theorem c_someT {xs : List D} (h1 : 1 ≤ xs.length) (h2 : xs.length ≤ 1000) (hc : GC c) : ∃ (x : D) (c' : Cup), callF tb P (n + 2) 28 [.cup, .tup xs] c = .ok (.val x) c' ∧ x ∈ xs ∧ GC c' := by
  rw [r__law_some]
  obtain ⟨r, c', e, ⟨b1, b2⟩, g⟩ := c_roll (P := P) (n := n) xs.length (by omega) (by omega) hc
  obtain ⟨r, rfl⟩ := Int.eq_ofNat_of_zero_le b1
  have hl : r < xs.length := by omega
  have ha := at_nat hl
  refine ⟨xs[r], c', ?_, List.getElem_mem hl, g⟩
  simp [e, ha, kept_GC hc g]
/-- what may stand in the place -/
def someD : List D := [.non, .bl true, .bl false, .int 0, .int 1, .int 2, .int 5, .int (-1), .str "", .tup [.str "sum"], .tup [.int 0, .int 1], .int 2, .tup [], .lst []]
theorem someD_pl : ∀ x ∈ someD, PlD 1 x := by
  have h0 : ∀ (i : Int), PlD 1 (.int i) := fun i => .int 1 i
  exact .cons (.non 1) (.cons (.bl 1 _) (.cons (.bl 1 _) (.cons (h0 _) (.cons (h0 _) (.cons (h0 _) (.cons (h0 _) (.cons (h0 _) (.cons (.str 1 _ (by decide +kernel))
    (.cons (.tup 0 _ (by unfold big; simp) (.cons (.str 0 _ (by decide +kernel)) (.nil 0))) (.cons (.tup 0 _ (by unfold big; simp) (.cons (.int 0 _) (.cons (.int 0 _) (.nil 0)))) (.cons (h0 _) (.cons (.tup 0 _ (by unfold big; simp) (.nil 0)) (.cons (.lst 0 _ (by unfold big; simp) (.nil 0)) (.nil 1))))))))))))))
theorem cmp_eqNilT {xs : List D} (h : okDs 63 xs = true) : cmpop .eq (.tup xs) (.tup []) = some xs.isEmpty := by
  have e1 : okD 64 (.tup xs) = true := by rw [okD_tup]; exact h
  have e2 : okD 64 (.tup []) = true := by rw [okD_tup]; exact okDs_nil 63
  rw [cmp_eqd, e1, e2, eqD_tup]
  cases xs with
  | nil => rfl
  | cons a xs => rw [eqDs_cn]; rfl
theorem bent_leaf {k : Nat} {d : D} (h : PlS k d) (ht : ∀ xs, d = .tup xs → xs = []) (hk : k ≤ 60) (hc : GC c) : ∃ (b : B) (c' : Cup), callF tb P (n + 3) 33 [.cup, d] c = .ok b c' ∧ PlD 1 b.d ∧ GC c' := by
  rw [r__law_bent]
  have es := c_sort (P := P) (n := n + 1) (c := c) 64 d (h.pl.ok 64 (by omega))
  by_cases q : srt d = 2
  · have hi : ∃ i, d = .int i := by cases h <;> simp [srt] at q; exact ⟨_, rfl⟩
    obtain ⟨i, rfl⟩ := hi
    obtain ⟨x, c', e, hx, g⟩ := c_some (P := P) (n := n) (c := c) (xs := someD ++ [.int (i + 1), .int (i + 1), .int (i - 1)]) (by simp) (by simp [someD]) hc
    have ha : binop .add (.lst someD) (.lst [.int (i + 1), .int (i + 1), .int (i - 1)]) = some (.new (someD ++ [.int (i + 1), .int (i + 1), .int (i - 1)])) := op_addL (by unfold big; simp [someD])
    refine ⟨.val x, c', ?_, ?_, g⟩
    · unfold someD at ha e
      simp [es, q]
      simp at ha e
      simp [ha, e, kept_GC hc g]
    · show PlD 1 x
      rcases List.mem_append.1 hx with hx | hx
      · exact someD_pl x hx
      · simp only [List.mem_cons, List.not_mem_nil, or_false] at hx
        rcases hx with rfl | rfl | rfl <;> exact .int 1 _
  · obtain ⟨x, c', e, hx, g⟩ := c_some (P := P) (n := n) (c := c) (xs := someD) (by simp [someD]) (by simp [someD]) hc
    refine ⟨.val x, c', ?_, someD_pl x hx, g⟩
    unfold someD at e
    cases h with
    | tup k xs hb hx =>
      have := ht xs rfl
      subst this
      have hn := cmp_eqNilT (xs := []) (okDs_nil 63)
      simp [hn, es, q]
      simp [e, kept_GC hc g]
    | _ =>
      simp [es, q]
      simp [e, kept_GC hc g]
theorem rest_AP {k : Nat} {xs : List D} (hb : xs.length ≤ 100) (hx : ∀ x ∈ xs, PlD k x) (l h l' h' : Option Int) : PlD (k + 1) (.tup (cut xs l h ++ cut xs l' h')) := by
  refine .tup k _ ?_ fun x hm => ?_
  · rw [List.length_append]
    have := cut_len xs l h
    have := cut_len xs l' h'
    unfold big; omega
  · rcases List.mem_append.1 hm with h | h
    · exact hx x (cut_mem h)
    · exact hx x (cut_mem h)
theorem c_bent {k : Nat} {d : D} (h : PlS k d) : ∀ (n : Nat) (c : Cup), k ≤ 20 → GC c → ∃ (b : B) (c' : Cup), callF tb P (n + k + 3) 33 [.cup, d] c = .ok b c' ∧ PlD (k + 1) b.d ∧ GC c' := by
  have lf : ∀ {k : Nat} {d : D}, PlS k d → (∀ xs, d = .tup xs → xs = []) → ∀ (n : Nat) (c : Cup), k ≤ 20 → GC c → ∃ (b : B) (c' : Cup), callF tb P (n + k + 3) 33 [.cup, d] c = .ok b c' ∧ PlD (k + 1) b.d ∧ GC c' := by
    intro k d h ht n c hk hc
    obtain ⟨b, c', e, p, g⟩ := bent_leaf (P := P) (n := n + k) h ht (by omega) hc
    exact ⟨b, c', e, p.mono _ (by omega), g⟩
  induction h with
  | non k => exact lf (.non k) (by simp)
  | bl k b => exact lf (.bl k b) (by simp)
  | int k i => exact lf (.int k i) (by simp)
  | str k s hs => exact lf (.str k s hs) (by simp)
  | tup k xs hb hx ih =>
    intro n c hk hc
    by_cases hne : xs = []
    · subst hne
      exact lf (.tup k [] hb hx) (fun ys e => by injection e with e; exact e.symm) n c hk hc
    have hxp : ∀ x ∈ xs, PlD k x := fun x hm => (hx x hm).pl
    have hlen : 1 ≤ xs.length := by cases xs with | nil => exact absurd rfl hne | cons _ _ => simp
    have hem : xs.isEmpty = false := by cases xs with | nil => exact absurd rfl hne | cons _ _ => rfl
    have hn := cmp_eqNilT (xs := xs) (okDs_pl hxp (by omega))
    rw [hem] at hn
    obtain ⟨r0, c0, e0, _, g0⟩ := c_roll (P := P) (n := n + k + 2) 8 (by omega) (by omega) hc
    rw [show n + (k + 1) + 3 = n + k + 3 + 1 by omega, r__law_bent]
    by_cases q0 : r0 = 0
    · subst q0
      have es : callF tb P (n + k + 3) 29 [.tup xs] c0 = .ok (.val (.int 4)) c0 := c_sort (n := n + k + 2) 64 (.tup xs) (by rw [okD_tup]; exact okDs_pl hxp (by omega))
      obtain ⟨x, c', e, hm, g⟩ := c_some (P := P) (n := n + k + 1) (c := c0) (xs := someD) (by simp [someD]) (by simp [someD]) g0
      refine ⟨.val x, c', ?_, (someD_pl x hm).mono _ (by omega), g⟩
      unfold someD at e
      simp [hn, e0, es]
      simp [e, kept_GC hc g]
    · obtain ⟨at', c1, e1, ⟨b1, b2⟩, g1⟩ := c_roll (P := P) (n := n + k + 2) xs.length (by omega) (by omega) g0
      obtain ⟨a, rfl⟩ := Int.eq_ofNat_of_zero_le b1
      obtain ⟨w, c2, e2, ⟨w1, w2⟩, g2⟩ := c_roll (P := P) (n := n + k + 2) 12 (by omega) (by omega) g1
      have hal : a < xs.length := by omega
      have big2 : ∀ l h l' h' : Option Int, (cut xs l h).length + (cut xs l' h').length ≤ big := by
        intro l h l' h'
        have := cut_len xs l h
        have := cut_len xs l' h'
        unfold big; omega
      have add2 : ∀ l h l' h' : Option Int, binop .add (.tup (cut xs l h)) (.tup (cut xs l' h')) = some (.val (.tup (cut xs l h ++ cut xs l' h'))) := fun l h l' h' => op_addT (big2 l h l' h')
      by_cases w_0 : w = 0
      · subst w_0
        refine ⟨.val (.tup (cut xs none (some a) ++ cut xs (some (a + 1)) none)), c2, ?_, (rest_AP hb hxp _ _ _ _).mono _ (by omega), g2⟩
        simp [hn, e0, q0, e1, e2, add2, kept_GC hc g2]
      by_cases w_1 : w = 1
      · subst w_1
        refine ⟨.val (.tup (cut xs none (some (a + 1)) ++ cut xs (some a) none)), c2, ?_, (rest_AP hb hxp _ _ _ _).mono _ (by omega), g2⟩
        simp [hn, e0, q0, e1, e2, add2, kept_GC hc g2]
      by_cases w_2 : w = 2
      · subst w_2
        refine ⟨.new xs, c2, ?_, (PlD.lst k xs (by unfold big; omega) hxp).mono _ (by omega), g2⟩
        simp [hn, e0, q0, e1, e2, kept_GC hc g2]
      by_cases w_3 : w = 3
      · subst w_3
        refine ⟨.val (.tup xs.reverse), c2, ?_, (PlD.tup k xs.reverse (by rw [List.length_reverse]; unfold big; omega) fun x hm => hxp x (List.mem_reverse.1 hm)).mono _ (by omega), g2⟩
        have hr : revop (.tup xs) = some (.val (.tup xs.reverse)) := rfl
        simp [hn, e0, q0, e1, e2, hr, kept_GC hc g2]
      obtain ⟨b, c3, e3, p3, g3⟩ := ih xs[a] (List.getElem_mem hal) n c2 (by omega) g2
      have ha := at_nat hal
      have big3 : ∀ l h : Option Int, (cut xs l h).length + [b.d].length ≤ big := by
        intro l h
        have := cut_len xs l h
        simp only [List.length_singleton]
        unfold big; omega
      have add3 : binop .add (.tup (cut xs none (some (a : Int)))) (.tup [b.d]) = some (.val (.tup (cut xs none (some (a : Int)) ++ [b.d]))) := op_addT (big3 _ _)
      have add4 : binop .add (.tup (cut xs none (some (a : Int)) ++ [b.d])) (.tup (cut xs (some ((a : Int) + 1)) none)) = some (.val (.tup ((cut xs none (some (a : Int)) ++ [b.d]) ++ cut xs (some ((a : Int) + 1)) none))) := op_addT (by
        rw [List.length_append]
        have := cut_len xs none (some (a : Int))
        have := cut_len xs (some ((a : Int) + 1)) none
        simp only [List.length_singleton]
        unfold big; omega)
      refine ⟨.val (.tup ((cut xs none (some (a : Int)) ++ [b.d]) ++ cut xs (some ((a : Int) + 1)) none)), c3, ?_, ?_, g3⟩
      · simp [hn, e0, q0, e1, e2, w_0, w_1, w_2, w_3, ha, e3, add3]
        simp at add4
        simp [add4, kept_GC hc g3]
      · refine .tup (k + 1) _ ?_ fun x hm => ?_
        · rw [List.length_append, List.length_append]
          have := cut_len xs none (some (a : Int))
          have := cut_len xs (some ((a : Int) + 1)) none
          simp only [List.length_singleton]
          unfold big; omega
        · rcases List.mem_append.1 hm with hm | hm
          · rcases List.mem_append.1 hm with hm | hm
            · exact (hxp x (cut_mem hm)).mono _ (by omega)
            · rw [List.mem_singleton] at hm
              subst hm; exact p3
          · exact (hxp x (cut_mem hm)).mono _ (by omega)
end Lw

/-! the law's own breaks, evener rows, counts -/
namespace Lw
open PySem Ev
variable {P : Par} {n : Nat} {c : Cup}
theorem c_law_breaks (R C : List Int) (r2 : R.length ≤ 12) (c2 : C.length ≤ 12) : callF tb P (n + 2) 36 [.tup (JL R), .tup (JL C)] c = .ok (.new (brks R C)) c := by
  rw [r__law_breaks]
  have key : ∀ (l : List Nat) (acc : List D) (o : Option T), acc.length + l.length ≤ 1000 → ∃ o', forL (ev (callF tb P (n + 1)) (.var 2)).g (execs P (callF tb P (n + 1)) [.ifs (.cmp .gt (.bi .sum [.sl (.var 4) (.con .non) (.var 2)]) (.bi .sum [.comp [5] (.var 5) (.var 0) (.con (.bl true)) (.bi .min2 [.var 5, .var 2])])) [.append 3 (.tup [.con (.str "columns"), .var 2])] []]) (l.map fun (j : Nat) => D.int ((1 + j : Nat) : Int))
      ⟨[some (.leaf (.tup (JL R))), some (.leaf (.tup (JL C))), o, some (.own acc), some (.leaf (.tup (JL (fall C)))), none], c⟩ =
      .nx ⟨[some (.leaf (.tup (JL R))), some (.leaf (.tup (JL C))), o', some (.own (acc ++ ((l.filter fun (j : Nat) => decide (mins ((1 + j : Nat) : Int) R < top (1 + j) C)).map fun j => 1 + j).map colD)), some (.leaf (.tup (JL (fall C)))), none], c⟩ := by
    intro l
    induction l with
    | nil => intro acc o _; exact ⟨o, by simp⟩
    | cons j l ih =>
      intro acc o hl
      simp only [List.length_cons] at hl
      have c1 := comp_J (F := callF tb P (n + 1)) (g := .var 5) (it := .var 0) (e := .bi .min2 [.var 5, .var 2]) (vs := [5])
        (s := ⟨[some (.leaf (.tup (JL R))), some (.leaf (.tup (JL C))), some (.leaf (.int ((1 + j : Nat) : Int))), some (.own acc), some (.leaf (.tup (JL (fall C)))), none], c⟩) (s2 := ⟨[some (.leaf (.tup (JL R))), some (.leaf (.tup (JL C))), some (.leaf (.int ((1 + j : Nat) : Int))), some (.own acc), some (.leaf (.tup (JL (fall C)))), none], c⟩)
        em (fun x => min x ((1 + j : Nat) : Int)) (l := R) rfl rfl (by unfold big; omega) (fun x hx => by
          have hb : biop .min2 [.int x, .int ((1 + j : Nat) : Int)] = some (.val (.int (min x ((1 + j : Nat) : Int)))) := by
            show some (B.val (.int (if ((1 + j : Nat) : Int) < x then ((1 + j : Nat) : Int) else x))) = _
            congr 3
            split <;> omega
          simp [-Int.natCast_add, turn1, wipe, hb])
      have c1' : (R.map fun x => min x ((1 + j : Nat) : Int)).sum = mins ((1 + j : Nat) : Int) R := rfl
      have e4 := cut_to (fall C) (1 + j)
      have hb : acc.length < big := by unfold big; omega
      by_cases q : mins ((1 + j : Nat) : Int) R < top (1 + j) C
      · obtain ⟨o', e⟩ := ih (acc ++ [colD (1 + j)]) (some (.leaf (.int ((1 + j : Nat) : Int)))) (by simp; omega)
        refine ⟨o', ?_⟩
        rw [List.map_cons, forL_cons, var_g, if_pos (by simp), out_ok]
        simp only [List.set_cons_succ, List.set_cons_zero, bt_val]
        simp only [colD] at e
        simp [-Int.natCast_add, e4, take_sum, c1, c1', wipe, back, q, hb, e, colD]
      · obtain ⟨o', e⟩ := ih acc (some (.leaf (.int ((1 + j : Nat) : Int)))) (by omega)
        refine ⟨o', ?_⟩
        rw [List.map_cons, forL_cons, var_g, if_pos (by simp), out_ok]
        simp only [List.set_cons_succ, List.set_cons_zero, bt_val]
        simp [-Int.natCast_add, e4, take_sum, c1, c1', wipe, back, q, hb, e]
  have e0 := c__law_falling (P := P) (n := n) (c := c) C
  have hrng : ∀ o : List D, (ev (callF tb P (n + 1)) (.rng2 (.con (.int 1)) (.bin .add (.bi .len [.var 1]) (.con (.int 1))))).i true ⟨[some (.leaf (.tup (JL R))), some (.leaf (.tup (JL C))), none, some (.own o), some (.leaf (.tup (JL (fall C)))), none], c⟩ = .ok ((List.range C.length).map fun (j : Nat) => D.int ((1 + j : Nat) : Int)) ⟨[some (.leaf (.tup (JL R))), some (.leaf (.tup (JL C))), none, some (.own o), some (.leaf (.tup (JL (fall C)))), none], c⟩ := by
    intro o
    have := rng2_nat (F := callF tb P (n + 1)) (a := .con (.int 1)) (b := .bin .add (.bi .len [.var 1]) (.con (.int 1))) (z := true) (l := 1) (h := C.length + 1) (s := ⟨[some (.leaf (.tup (JL R))), some (.leaf (.tup (JL C))), none, some (.own o), some (.leaf (.tup (JL (fall C)))), none], c⟩) (s1 := ⟨[some (.leaf (.tup (JL R))), some (.leaf (.tup (JL C))), none, some (.own o), some (.leaf (.tup (JL (fall C)))), none], c⟩) (s2 := ⟨[some (.leaf (.tup (JL R))), some (.leaf (.tup (JL C))), none, some (.own o), some (.leaf (.tup (JL (fall C)))), none], c⟩) (by simp) (by simp) (by unfold big; omega) (by unfold big; omega)
    rw [Nat.add_sub_cancel] at this
    exact this
  unfold brks brkN
  by_cases q : R.sum = C.sum
  · obtain ⟨o', e⟩ := key (List.range C.length) [] none (by simp; omega)
    have hr := hrng []
    rw [if_pos q]
    simp [-Int.natCast_add, -List.map_map, e0, q, hr, e]
  · obtain ⟨o', e⟩ := key (List.range C.length) [sumD] none (by simp; omega)
    have hr := hrng [sumD]
    have hs : D.tup [D.str "sum"] = sumD := rfl
    have hb : (0 : Nat) < big := by unfold big; omega
    rw [if_neg q]
    simp [-Int.natCast_add, -List.map_map, e0, q, hs, hb, hr, e]
theorem c_law_evener (row : List Int) (k : Nat) (hk : k ≤ 100) (h1 : 1 ≤ row.length) (h2 : row.length ≤ 100) (hx : ∀ x ∈ row, 0 ≤ x ∧ x ≤ 1000) (hc : GC c) : ∃ (found : List Int) (c' : Cup), callF tb P (n + 2) 32 [.cup, .tup (JL row), .int k] c = .ok (.val (.tup (JL found))) c' ∧ Evr row found ∧ GC c' := by
  rw [r__law_evener]
  have bd : ∀ found, Evr row found → ∀ x ∈ found, 0 ≤ x ∧ x ≤ 1000 := by
    intro found h x hm
    obtain ⟨⟨y, hy, l1⟩, z, hz, l2⟩ := h.bd x hm
    have := hx y hy
    have := hx z hz
    omega
  have key : ∀ (l : List Nat) (found : List Int) (c : Cup) (o4 o5 o6 o7 : Option T), Evr row found → GC c → ∃ (found' : List Int) (o4' o5' o6' o7' : Option T) (c' : Cup), forL (ev (callF tb P (n + 1)) (.var 4)).g (execs P (callF tb P (n + 1)) [.par [5, 6] [.call 27 [.var 0, .bi .len [.var 3]], .call 27 [.var 0, .bi .len [.var 3]]], .ifs (.cmp .gt (.ix (.var 3) (.var 5)) (.ix (.var 3) (.var 6))) [.asg (.var 7) (.bin .add (.con (.int 1)) (.call 27 [.var 0, .bin .sub (.ix (.var 3) (.var 5)) (.ix (.var 3) (.var 6))])), .asg (.tup [.ix (.var 3) (.var 5), .ix (.var 3) (.var 6)]) (.tup [.bin .sub (.ix (.var 3) (.var 5)) (.var 7), .bin .add (.ix (.var 3) (.var 6)) (.var 7)])] []]) (l.map fun (j : Nat) => D.int j)
      ⟨[some (.leaf .cup), some (.leaf (.tup (JL row))), some (.leaf (.int k)), some (.own (JL found)), o4, o5, o6, o7], c⟩ =
      .nx ⟨[some (.leaf .cup), some (.leaf (.tup (JL row))), some (.leaf (.int k)), some (.own (JL found')), o4', o5', o6', o7'], c'⟩ ∧ Evr row found' ∧ GC c' := by
    intro l
    induction l with
    | nil => intro found c o4 o5 o6 o7 h hc; exact ⟨found, o4, o5, o6, o7, c, rfl, h, hc⟩
    | cons t l ih =>
      intro found c o4 o5 o6 o7 h hc
      have hl := h.len
      obtain ⟨i, ca, e1, ⟨b1, b1'⟩, g1⟩ := c_roll (P := P) (n := n) found.length (by omega) (by omega) hc
      obtain ⟨j, cb, e2, ⟨b2, b2'⟩, g2⟩ := c_roll (P := P) (n := n) found.length (by omega) (by omega) g1
      obtain ⟨i, rfl⟩ := Int.eq_ofNat_of_zero_le b1
      obtain ⟨j, rfl⟩ := Int.eq_ofNat_of_zero_le b2
      have hi : i < found.length := by omega
      have hj : j < found.length := by omega
      have ai := at_JL found (itAt found i) (get_it hi)
      have aj := at_JL found (itAt found j) (get_it hj)
      simp only [em_int] at ai aj
      by_cases q : itAt found j < itAt found i
      · have bi := bd found h _ (itAt_mem hi)
        have bj := bd found h _ (itAt_mem hj)
        obtain ⟨m, cc, e3, ⟨b3, b3'⟩, g3⟩ := c_roll (P := P) (n := n) (itAt found i - itAt found j) (by omega) (by omega) g2
        have hg := h.gift hi hj q (m := 1 + m) (by omega) (by omega)
        obtain ⟨f', o4', o5', o6', o7', c', e, hf, hc'⟩ := ih _ cc (some (.leaf (.int t))) (some (.leaf (.int i))) (some (.leaf (.int j))) (some (.leaf (.int (1 + m)))) hg g3
        refine ⟨f', o4', o5', o6', o7', c', ?_, hf, hc'⟩
        have p1 := put1_own (F := callF tb P (n + 1)) (b := .var 5) (k := 3) (env := [some (.leaf .cup), some (.leaf (.tup (JL row))), some (.leaf (.int k)), some (.own (JL found)), some (.leaf (.int t)), some (.leaf (.int i)), some (.leaf (.int j)), some (.leaf (.int (1 + m)))]) (cu := cc) (t := found) (i := i) (itAt found i - (1 + m)) rfl (by simp) hi
        have p2 := put1_own (F := callF tb P (n + 1)) (b := .var 6) (k := 3) (env := [some (.leaf .cup), some (.leaf (.tup (JL row))), some (.leaf (.int k)), some (.own (JL (found.set i (itAt found i - (1 + m))))), some (.leaf (.int t)), some (.leaf (.int i)), some (.leaf (.int j)), some (.leaf (.int (1 + m)))]) (cu := cc) (t := found.set i (itAt found i - (1 + m))) (i := j) (itAt found j + (1 + m)) rfl (by simp) (by simp; exact hj)
        simp only [em_int, List.set_cons_succ, List.set_cons_zero] at p1 p2
        simp [e1, e2, ai, aj, q, e3, p1, p2, e]
      · obtain ⟨f', o4', o5', o6', o7', c', e, hf, hc'⟩ := ih found cb (some (.leaf (.int t))) (some (.leaf (.int i))) (some (.leaf (.int j))) o7 h g2
        refine ⟨f', o4', o5', o6', o7', c', ?_, hf, hc'⟩
        simp [e1, e2, ai, aj, q, e]
  obtain ⟨f', o4', o5', o6', o7', c', e, hf, hc'⟩ := key (List.range k) row c none none none none (Evr.refl row) hc
  have hrng := rng_nat (F := callF tb P (n + 1)) (a := .var 2) (z := true) (k := k) (s := ⟨[some (.leaf .cup), some (.leaf (.tup (JL row))), some (.leaf (.int k)), some (.own (JL row)), none, none, none, none], c⟩) (s1 := ⟨[some (.leaf .cup), some (.leaf (.tup (JL row))), some (.leaf (.int k)), some (.own (JL row)), none, none, none, none], c⟩) (by simp) (by unfold big; omega)
  refine ⟨f', c', ?_, hf, hc'⟩
  simp [hrng, e, kept_GC hc hc']
end Lw

/-! counts of a random table; all judged -/
namespace Lw
open PySem Ev
variable {P : Par} {n : Nat} {c : Cup}
theorem GT.ct {w : Nat} {t : List (List Int)} (h : GT w t) : Ct (t.map List.sum) ∧ Ct (cols w t) := by
  refine ⟨⟨by simpa using h.1, fun x hx => ?_⟩, ⟨by rw [cols_len]; exact h.2.1, fun x hx => ?_⟩⟩
  · obtain ⟨r, hr, rfl⟩ := List.mem_map.1 hx
    have := h.sum0 hr
    have := h.2.1.2
    omega
  · obtain ⟨j, _, rfl⟩ := List.mem_map.1 hx
    have h1 : ∀ y ∈ t.map (fun r => itAt r j), 0 ≤ y ∧ y ≤ 1 := by
      intro y hy
      obtain ⟨r, hr, rfl⟩ := List.mem_map.1 hy
      rcases h.it hr j with e | e <;> omega
    have a := sum_nonneg fun y hy => (h1 y hy).1
    have b := sum_le_len fun y hy => (h1 y hy).2
    rw [List.length_map] at b
    have := h.1.2
    omega
theorem c_law_two (most wide : Nat) (h1 : 1 ≤ most) (h2 : most ≤ 12) (h3 : 1 ≤ wide) (h4 : wide ≤ 12) (hc : GC c) : ∃ (R C : List Int) (c' : Cup), callF tb P (n + 3) 39 [.cup, .int most, .int wide] c = .ok (.val (.tup [.tup (JL R), .tup (JL C)])) c' ∧ (Ct R ∧ Ct C) ∧ GC c' := by
  rw [r__law_two]
  obtain ⟨way, c1, e1, ⟨b1, b1'⟩, g1⟩ := c_roll (P := P) (n := n + 1) 3 (by omega) (by omega) hc
  obtain ⟨w, t, c2, e2, ⟨ht, _, _⟩, g2⟩ := c_law_marks (P := P) (n := n) most wide h1 h2 h3 h4 g1
  have e3 := c_counts_of (P := P) (n := n + 1) (c := c2) t ht
  obtain ⟨cr, cc⟩ := ht.ct
  revert e3 cr cc
  generalize t.map List.sum = R
  generalize cols w t = C
  intro e3 cr cc
  by_cases q1 : way = 1
  · subst q1
    exact ⟨R, C, c2, by simp [e1, e2, e3, kept_GC hc g2], ⟨cr, cc⟩, g2⟩
  have hl := cc.1
  obtain ⟨i, c3, e4, ⟨b3, b3'⟩, g3⟩ := c_roll (P := P) (n := n + 1) C.length (by omega) (by omega) g2
  obtain ⟨j, c4, e5, ⟨b4, b4'⟩, g4⟩ := c_roll (P := P) (n := n + 1) C.length (by omega) (by omega) g3
  obtain ⟨i, rfl⟩ := Int.eq_ofNat_of_zero_le b3
  obtain ⟨j, rfl⟩ := Int.eq_ofNat_of_zero_le b4
  have hi : i < C.length := by omega
  have hj : j < C.length := by omega
  have ai := at_JL C (itAt C i) (get_it hi)
  have aj := at_JL C (itAt C j) (get_it hj)
  simp only [em_int] at ai aj
  have bi := cc.2 _ (itAt_mem hi)
  have bj := cc.2 _ (itAt_mem hj)
  by_cases q2 : way = 2
  · subst q2
    have hr := cr.1
    obtain ⟨ys, c5, e6, a6, g5⟩ := comp_R (β := Int) (F := callF tb P (n + 2)) (g := .var 9) (it := .var 4) (c := .con (.bl true)) (e := .bi .min2 [.con (.int 12), .call 27 [.var 0, .bin .add (.bi .len [.var 5]) (.con (.int 2))]]) (vs := [9]) em GC (fun _ y => 0 ≤ y ∧ y ≤ 12) (l := C)
      (s := ⟨[some (.leaf .cup), some (.leaf (.int most)), some (.leaf (.int wide)), some (.leaf (.int 2)), some (.own (JL C)), some (.leaf (.tup (JL R))), some (.leaf (.tup (JL C))), some (.leaf (.int i)), some (.leaf (.int j)), none], c4⟩)
      (s2 := ⟨[some (.leaf .cup), some (.leaf (.int most)), some (.leaf (.int wide)), some (.leaf (.int 2)), some (.own (JL C)), some (.leaf (.tup (JL R))), some (.leaf (.tup (JL C))), some (.leaf (.int i)), some (.leaf (.int j)), none], c4⟩)
      (by simp [JL]) rfl (by unfold big; omega) g4 (fun x hx k hk => by
        obtain ⟨d, k', e, ⟨b, b'⟩, g⟩ := c_roll (P := P) (n := n + 1) ((R.length : Int) + 2) (by omega) (by omega) hk
        have hm : biop .min2 [.int 12, .int d] = some (.val (.int (if d < 12 then d else 12))) := rfl
        refine ⟨if d < 12 then d else 12, k', by simp [turn1, wipe, e, hm], ?_, g⟩
        split <;> omega)
    have hys : ∀ y ∈ ys, 0 ≤ y ∧ y ≤ 12 := fun y hy => a6.right (R := fun y => 0 ≤ y ∧ y ≤ 12) (fun _ _ h => h) y hy
    refine ⟨R, ys, c5, ?_, ⟨cr, ⟨by rw [a6.len]; exact hl, hys⟩⟩, g5⟩
    simp [e1, e2, e3, e4, e5, e6, wipe, back, kept_GC hc g5]
  have q0 : way = 0 := by omega
  subst q0
  by_cases q3 : 0 < itAt C i
  · by_cases q4 : itAt C j < 12
    · have p1 := put1_own (F := callF tb P (n + 2)) (b := .var 7) (k := 4) (env := [some (.leaf .cup), some (.leaf (.int most)), some (.leaf (.int wide)), some (.leaf (.int 0)), some (.own (JL C)), some (.leaf (.tup (JL R))), some (.leaf (.tup (JL C))), some (.leaf (.int i)), some (.leaf (.int j)), none]) (cu := c4) (t := C) (i := i) (itAt C i - 1) rfl (by simp) hi
      have p2 := put1_own (F := callF tb P (n + 2)) (b := .var 8) (k := 4) (env := [some (.leaf .cup), some (.leaf (.int most)), some (.leaf (.int wide)), some (.leaf (.int 0)), some (.own (JL (C.set i (itAt C i - 1)))), some (.leaf (.tup (JL R))), some (.leaf (.tup (JL C))), some (.leaf (.int i)), some (.leaf (.int j)), none]) (cu := c4) (t := C.set i (itAt C i - 1)) (i := j) (itAt C j + 1) rfl (by simp) (by simp; exact hj)
      simp only [em_int, List.set_cons_succ, List.set_cons_zero] at p1 p2
      refine ⟨R, (C.set i (itAt C i - 1)).set j (itAt C j + 1), c4, ?_, ⟨cr, ⟨by simpa using hl, fun x hx => ?_⟩⟩, g4⟩
      · simp [e1, e2, e3, e4, e5, ai, aj, q3, q4, p1, p2, kept_GC hc g4]
      · rcases mem_set_or _ _ _ x hx with e | hx
        · omega
        · rcases mem_set_or _ _ _ x hx with e | hx
          · omega
          · exact cc.2 x hx
    · exact ⟨R, C, c4, by simp [e1, e2, e3, e4, e5, ai, aj, q3, q4, kept_GC hc g4], ⟨cr, cc⟩, g4⟩
  · exact ⟨R, C, c4, by simp [e1, e2, e3, e4, e5, ai, aj, q3, kept_GC hc g4], ⟨cr, cc⟩, g4⟩
end Lw

/-! all judged -/
namespace Lw
open PySem Ev
variable {P : Par} {n : Nat} {c : Cup}
theorem eqD_refl_str (s : Str) : eqD (.str s) (.str s) = true := by simp [eqD]
theorem eqD_sum : eqD sumD sumD = true := by
  show eqD (.tup [.str "sum"]) (.tup [.str "sum"]) = true
  rw [eqD_tup, eqDs_cons, eqDs_nil, eqD_refl_str]; rfl
theorem eqD_col (m : Nat) : eqD (colD m) (colD m) = true := by
  show eqD (.tup [.str "columns", .int m]) (.tup [.str "columns", .int m]) = true
  rw [eqD_tup, eqDs_cons, eqDs_cons, eqDs_nil, eqD_refl_str, eqII]; simp
theorem hd_in (R C : List Int) : isNone (hd0 (brks R C)) = (brks R C).isEmpty ∧ (isNone (hd0 (brks R C)) = false → isinD (hd0 (brks R C)) (brks R C) = true) ∧ PlD 1 (hd0 (brks R C)) := by
  have hp := (brks_AP R C).2
  cases q : brks R C with
  | nil => exact ⟨rfl, fun h => (by cases h), .non 1⟩
  | cons x xs =>
    have hx : x ∈ brks R C := by rw [q]; exact List.mem_cons_self
    have : (x = sumD ∨ ∃ m, x = colD m) := by
      unfold brks at hx
      rcases List.mem_append.1 hx with hx | hx
      · split at hx
        · cases hx
        · exact .inl (List.mem_singleton.1 hx)
      · obtain ⟨m, _, e⟩ := List.mem_map.1 hx
        exact .inr ⟨m, e.symm⟩
    refine ⟨?_, fun _ => ?_, hp x hx⟩
    · rcases this with rfl | ⟨m, rfl⟩ <;> rfl
    · show isinD x (x :: xs) = true
      unfold isinD
      rw [List.any_cons]
      rcases this with rfl | ⟨m, rfl⟩
      · rw [eqD_sum]; rfl
      · rw [eqD_col]; rfl
theorem mkD_none {R C : List Int} (h : Ct R) (g : Ct C) : isNone (mkD R C) = !(brks R C).isEmpty := by
  have a := greedy_iff h.nn h.1.1 h.1.2 g.1.1 g.1.2
  have b := brks_nil (C := C) h.nn
  unfold mkD
  by_cases q : Pm R C
  · rw [if_pos (a.2 q), b.2 q]; rfl
  · rw [if_neg fun e => q (a.1 e)]
    cases e : brks R C with
    | nil => exact absurd (b.1 e) q
    | cons x xs => rfl
theorem brks_comm {R C : List Int} (h : Ct R) (g : Ct C) : (brks C R).isEmpty = (brks R C).isEmpty := by
  rw [Bool.eq_iff_iff, List.isEmpty_iff, List.isEmpty_iff, brks_nil h.nn, brks_nil g.nn]
  exact Pm.comm
theorem gd_tup (R C : List Int) (xs : List D) : gdD R C (.tup xs) = ((xs.drop 1).all (fun d => decide (srt d = 2)) && isinD (.tup xs) (brks R C)) := rfl
theorem cut_drop (xs : List D) : cut xs (some 1) none = xs.drop 1 := by
  show (xs.drop (min 1 xs.length)).take (xs.length - min 1 xs.length) = _
  cases xs with
  | nil => rfl
  | cons x xs =>
    have : min 1 (x :: xs).length = 1 := by simp
    rw [this]
    simp
theorem filter_all (xs : List D) : (xs.filter fun d => !decide (srt d = 2)).isEmpty = xs.all fun d => decide (srt d = 2) := by
  induction xs with
  | nil => rfl
  | cons x xs ih =>
    rw [List.filter_cons, List.all_cons]
    by_cases q : srt x = 2
    · simp [q]
      simpa using ih
    · simp [q]
/-- whether a value is a break, as the law says -/
theorem good_ev {o0 o1 o2 o4 o5 : Option T} {R C : List Int} {k : Nat} {v : D} (o7 : Option T) (hv : PlD k v) (hk : k ≤ 60) : (ev (callF tb P (n + 1)) (.and (.isi .tuple (.var 6)) (.and (.cmp .eq (.comp [8] (.var 8) (.sl (.var 6) (.con (.int 1)) (.con .non)) (.cmp .ne (.call 29 [.var 8]) (.con (.int 2))) (.var 8)) (.lst [])) (.cmp .isin (.var 6) (.var 3))))).b ⟨[o0, o1, o2, some (.own (brks R C)), o4, o5, some (.leaf v), o7, none], c⟩ =
    .ok (.val (.bl (gdD R C v))) ⟨[o0, o1, o2, some (.own (brks R C)), o4, o5, some (.leaf v), o7, none], c⟩ := by
  have e4 := isin_pl hv (by omega) (brks_AP R C) (by omega)
  cases hv with
  | tup j xs hb hx =>
    have hd : ∀ x ∈ xs.drop 1, PlD j x := fun x hm => hx x (List.mem_of_mem_drop hm)
    have c1 := comp_D (F := callF tb P (n + 1)) (g := .var 8) (it := .sl (.var 6) (.con (.int 1)) (.con .non)) (c := .cmp .ne (.call 29 [.var 8]) (.con (.int 2))) (e := .var 8) (vs := [8])
      (s := ⟨[o0, o1, o2, some (.own (brks R C)), o4, o5, some (.leaf (.tup xs)), o7, none], c⟩) (s2 := ⟨[o0, o1, o2, some (.own (brks R C)), o4, o5, some (.leaf (.tup xs)), o7, none], c⟩) (xs := xs.drop 1) (fun d => !decide (srt d = 2)) (by simp [cut_drop]) rfl (by rw [List.length_drop]; omega) (fun x hm => by
        have es := c_sort (P := P) (n := n) (c := c) 64 x ((hd x hm).ok 64 (by omega))
        by_cases q : srt x = 2 <;> simp [turn1, wipe, es, q])
    have hn := cmp_eqNil (xs := (xs.drop 1).filter fun d => !decide (srt d = 2)) (okDs_pl (fun x hm => hd x (List.mem_filter.1 hm).1) (by omega))
    rw [filter_all] at hn
    rw [gd_tup]
    cases q : (xs.drop 1).all fun d => decide (srt d = 2)
    · rw [q] at hn
      simp [-List.drop_one, c1, wipe, back, hn]
    · rw [q] at hn
      simp [-List.drop_one, c1, wipe, back, hn, e4]
  | _ => simp [gdD]
theorem right_for {o0 o5 : Option T} {R C : List Int} {o4 : Option T} (h : Ct R) (g : Ct C) : ∀ (l : List D) (o6 o7 : Option T), (∀ v ∈ l, PlD 10 v) →
    ∃ o6' o7', forL (ev (callF tb P (n + 6)) (.var 6)).g (execs P (callF tb P (n + 6)) [.asg (.var 7) (.and (.isi .tuple (.var 6)) (.and (.cmp .eq (.comp [8] (.var 8) (.sl (.var 6) (.con (.int 1)) (.con .non)) (.cmp .ne (.call 29 [.var 8]) (.con (.int 2))) (.var 8)) (.lst [])) (.cmp .isin (.var 6) (.var 3)))), .ifs (.not (.call 30 [.call 24 [.var 1, .var 2, .var 6], .var 7])) [.ret (.con (.bl false))] []]) l
      ⟨[o0, some (.leaf (.tup (JL R))), some (.leaf (.tup (JL C))), some (.own (brks R C)), o4, o5, o6, o7, none], c⟩ =
      .nx ⟨[o0, some (.leaf (.tup (JL R))), some (.leaf (.tup (JL C))), some (.own (brks R C)), o4, o5, o6', o7', none], c⟩
  | [], o6, o7, _ => ⟨o6, o7, rfl⟩
  | v :: l, o6, o7, hl => by
    have hv := hl v List.mem_cons_self
    obtain ⟨o6', o7', e⟩ := right_for (o0 := o0) (o5 := o5) (o4 := o4) h g l (some (.leaf v)) (some (.leaf (.bl (gdD R C v)))) (fun x hx => hl x (List.mem_cons_of_mem _ hx))
    refine ⟨o6', o7', ?_⟩
    have e1 := good_ev (P := P) (n := n + 5) (c := c) (o0 := o0) (o1 := some (.leaf (.tup (JL R)))) (o2 := some (.leaf (.tup (JL C)))) (o4 := o4) (o5 := o5) (R := R) (C := C) o7 hv (by omega)
    have e2 := c_is_mark_break (P := P) (n := n) (c := c) h g hv (by omega)
    rw [mb_gd hv] at e2
    have e3 := like_refl (P := P) (.bl 0 (gdD R C v)) (n + 4) c (by omega)
    rw [forL_cons, var_g, if_pos (by simp), out_ok]
    simp only [List.set_cons_succ, List.set_cons_zero, bt_val]
    rw [Ev.execs_cons, exec_asg, e1]
    simp [e2, e3, e]
theorem Ct.fits {xs : List Int} (h : Ct xs) : fits xs = true := by
  unfold Lw.fits
  rw [within_ok (by have := h.1.1; omega) (by have := h.1.2; omega), Bool.true_and, List.all_eq_true]
  intro x hx
  have := h.2 x hx
  exact within_ok (by omega) (by omega)
theorem max_le : ∀ (xs : List Int) (x m : Int), maxI x xs ≤ m ↔ x ≤ m ∧ ∀ y ∈ xs, y ≤ m
  | [], x, m => by simp [maxI]
  | y :: ys, x, m => by
    have := max_le ys (max x y) m
    unfold maxI at this ⊢
    rw [List.foldl_cons, this]
    simp only [List.mem_cons]
    refine ⟨fun ⟨h1, h2⟩ => ⟨by omega, fun z hz => ?_⟩, fun ⟨h1, h2⟩ => ⟨?_, fun z hz => h2 z (.inr hz)⟩⟩
    · rcases hz with rfl | hz
      · omega
      · exact h2 z hz
    · have := h2 y (.inl rfl)
      omega
/-- the greatest -/
def maxL : List Int → Int
  | [] => 0
  | x :: xs => maxI x xs
theorem bi_max {xs : List Int} (h : 1 ≤ xs.length) : biop .max1 [.tup (JL xs)] = some (.val (.int (maxL xs))) := by
  cases xs with
  | nil => simp at h
  | cons x xs =>
    have e : (items? (.tup (JL (x :: xs)))).bind ints? = some (x :: xs) := JL_ints (x :: xs)
    show (match (items? (.tup (JL (x :: xs)))).bind ints? with
    | some (y :: ys) => some (B.val (.int (maxI y ys)))
    | _ => none) = _
    rw [e]; rfl
theorem maxL_le {xs : List Int} (h : 1 ≤ xs.length) (m : Int) : maxL xs ≤ m ↔ ∀ y ∈ xs, y ≤ m := by
  cases xs with
  | nil => simp at h
  | cons x xs =>
    show maxI x xs ≤ m ↔ _
    rw [max_le]; simp
def lastD1 (L : Nat) : List D := [sumD, .tup [.str "columns", .int 1], .tup [.str "columns", .int L], .tup [.str "columns", .int ((L : Int) + 1)], .tup [.str "columns", .int 0], .tup [.str "columns", .bl true], .tup [.str "columns"]]
def lastD2 (b : D) : List D := [.tup [.str "columns", .int 1, .int 1], .tup [.str "rows", .int 1], .lst [.str "sum"], .tup [.str "sum", .int 1], .non, .tup [], .int 5, .str "sum", .tup [.int 1, .int 2], .tup [.non], b]
theorem lastD1_pl (L : Nat) : ∀ x ∈ lastD1 L, PlD 1 x := by
  unfold lastD1 sumD
  repeat (first | exact .int _ _ | exact .bl _ _ | exact .non _ | exact .nil _ | refine .lst _ _ (by unfold big; simp) ?_ | refine .tup _ _ (by unfold big; simp) ?_ | refine .cons ?_ ?_ | exact .str _ _ (by decide +kernel))
theorem lastD2_pl {b : D} (h : PlD 2 b) : ∀ x ∈ lastD2 b, PlD 2 x := by
  unfold lastD2
  repeat (first | exact h | exact .int _ _ | exact .bl _ _ | exact .non _ | exact .nil _ | refine .lst _ _ (by unfold big; simp) ?_ | refine .tup _ _ (by unfold big; simp) ?_ | refine .cons ?_ ?_ | exact .str _ _ (by decide +kernel))
theorem c_law_right {R C : List Int} (h : Ct R) (g : Ct C) (hc : GC c) : ∃ c', callF tb P (n + 7) 40 [.cup, .tup (JL R), .tup (JL C)] c = .ok (.val (.bl true)) c' ∧ GC c' := by
  rw [r__law_right]
  have h1 := h.1
  have g1 := g.1
  have e1 := c_law_breaks (P := P) (n := n + 4) (c := c) R C h1.2 g1.2
  have e2 := c_mark_break (P := P) (n := n) (c := c) h g
  have e3 := c_can_be_marked (P := P) (n := n) (c := c) h g
  have e4 := c_mark_table (P := P) (n := n) (c := c) h g
  have hn := mkD_none h g
  obtain ⟨hh1, hh2, hh3⟩ := hd_in R C
  have e5 := cmp_eqNil (xs := brks R C) (okDs_pl (brks_AP R C).2 (by omega))
  have hm : ∀ b : Bool, binop .mul (.lst [.bl b]) (.int 3) = some (.new [.bl b, .bl b, .bl b]) := fun b => rfl
  have hp3 : ∀ b : Bool, PlD 1 (.lst [.bl b, .bl b, .bl b]) := fun b => .lst 0 _ (by unfold big; simp) (.cons (.bl 0 b) (.cons (.bl 0 b) (.cons (.bl 0 b) (.nil 0))))
  have e6 : ∀ (b : Bool) (c : Cup), callF tb P (n + 6) 30 [.lst [.bl b, .bl b, .bl b], .lst [.bl b, .bl b, .bl b]] c = .ok (.val (.bl true)) c := fun b c => like_refl (P := P) (hp3 b) (n + 3) c (by omega)
  have e7 := notin_pl hh3 (by omega) (brks_AP R C) (by omega)
  -- the values
  have hsl : (cut (brks R C) none (some 4)).length ≤ 13 := by
    have := cut_len (brks R C) none (some 4)
    have := (brks_AP R C).1
    omega
  have a1 : binop .add (.lst (cut (brks R C) none (some 4))) (.lst (lastD1 C.length)) = some (.new (cut (brks R C) none (some 4) ++ lastD1 C.length)) := op_addL (by unfold big lastD1; simp; omega)
  obtain ⟨b, c1, e8, pb, gb⟩ := c_bent (P := P) (.tup 0 [.str "columns", .int 1] (by simp) (fun x hx => by
    simp only [List.mem_cons, List.not_mem_nil, or_false] at hx
    rcases hx with rfl | rfl
    · exact .str 0 _ (by decide +kernel)
    · exact .int 0 _)) (n + 2) c (by omega) hc
  have a2 : binop .add (.lst (cut (brks R C) none (some 4) ++ lastD1 C.length)) (.lst (lastD2 b.d)) = some (.new ((cut (brks R C) none (some 4) ++ lastD1 C.length) ++ lastD2 b.d)) := op_addL (by rw [List.length_append]; unfold big lastD1 lastD2; simp; omega)
  have hall : ∀ v ∈ (cut (brks R C) none (some 4) ++ lastD1 C.length) ++ lastD2 b.d, PlD 10 v := by
    intro v hv
    rcases List.mem_append.1 hv with hv | hv
    · rcases List.mem_append.1 hv with hv | hv
      · exact ((brks_AP R C).2 v (cut_mem hv)).mono _ (by omega)
      · exact (lastD1_pl _ v hv).mono _ (by omega)
    · exact (lastD2_pl pb v hv).mono _ (by omega)
  obtain ⟨o6, o7, ef⟩ := right_for (P := P) (n := n) (c := c1) (o0 := some (.leaf .cup)) (o5 := some (.leaf (.lst ((cut (brks R C) none (some 4) ++ lastD1 C.length) ++ lastD2 b.d)))) (o4 := some (.leaf (hd0 (brks R C)))) h g _ none none hall
  -- what is left
  have e9 := c_can_be_marked (P := P) (n := n) (c := c1) g h
  rw [brks_comm h g] at e9
  have e10 : ∀ (b : Bool) (c : Cup), callF tb P (n + 6) 30 [.bl b, .bl b] c = .ok (.val (.bl true)) c := fun b c => like_refl (P := P) (.bl 0 b) (n + 4) c (by omega)
  have e11 := bi_max h1.1
  have e12 := cmp_neNil (xs := brks R C) (okDs_pl (brks_AP R C).2 (by omega))
  have hnil := brks_nil (C := C) h.nn
  refine ⟨c1, ?_, gb⟩
  unfold lastD1 sumD at a1 a2 ef
  unfold lastD2 at a2 ef
  have last : ∀ (s5 s6 s7 : Option T), fin c (execs P (callF tb P (n + 6)) [.ifs (.or (.cmp .gt (.bi .max1 [.var 1]) (.bi .len [.var 2])) (.cmp .ne (.bi .sum [.var 1]) (.bi .sum [.var 2]))) [.ret (.cmp .ne (.var 3) (.lst []))] [], .ret (.cmp .eq (.call 10 [.var 2, .call 20 [.var 1, .bi .len [.var 2]]]) (.cmp .eq (.var 3) (.lst [])))]
      ⟨[some (.leaf .cup), some (.leaf (.tup (JL R))), some (.leaf (.tup (JL C))), some (.own (brks R C)), some (.leaf (hd0 (brks R C))), s5, s6, s7, none], c1⟩) = .ok (.val (.bl true)) c1 := by
    intro s5 s6 s7
    by_cases q1 : (C.length : Int) < maxL R
    · have : (brks R C).isEmpty = false := by
        rw [Bool.eq_false_iff, ne_eq, List.isEmpty_iff, hnil]
        intro hp
        have := (maxL_le h1.1 (C.length : Int)).2 hp.row_le
        omega
      rw [this] at e12
      simp [e11, q1, e12, kept_GC hc gb]
    · by_cases q2 : R.sum = C.sum
      · have hle : ∀ x ∈ R, x ≤ C.length := (maxL_le h1.1 (C.length : Int)).1 (by omega)
        have e13 := c_turned_over (P := P) (n := n + 1) (c := c1) R C.length h.fit h1.2 g1.1 g1.2
        have ho := over_bound R C.length
        have fo : fits (over R C.length) = true := by
          unfold Lw.fits
          rw [over_len, within_ok (by omega) (by omega), Bool.true_and, List.all_eq_true]
          intro x hx
          have := ho x hx
          exact within_ok (by omega) (by omega)
        have e14 := c_is_as_even (P := P) (n := n + 1) (c := c1) C (over R C.length) g.fits fo (by rw [over_len]) g1.1 (by omega)
        have : evn C (over R C.length) = (brks R C).isEmpty := by
          rw [Bool.eq_iff_iff, List.isEmpty_iff, hnil]
          exact evn_pm h.nn g1.1 hle q2
        rw [this] at e14
        simp [e11, q1, q2, e13, e14, e5, kept_GC hc gb]
      · have : (brks R C).isEmpty = false := by
          rw [Bool.eq_false_iff, ne_eq, List.isEmpty_iff, hnil]
          exact fun hp => q2 hp.1
        rw [this] at e12
        simp [e11, q1, q2, e12, kept_GC hc gb]
  have hsd : D.tup [D.str "sum"] = sumD := rfl
  cases q : (brks R C).isEmpty
  · rw [q] at hh1 hn e3 e5 e9
    have hh2' := hh2 hh1
    rw [hh2'] at e7
    simp [e1, e2, e3, e4, hh1, hn, e5, hm, e6, e7, a1, e8]
    simp at a2
    simp [a2]
    simp at ef
    rw [ef]
    simp [e9, e10, e5]
    exact last _ _ _
  · rw [q] at hh1 hn e3 e5 e9
    simp [e1, e2, e3, e4, hh1, hn, e5, hm, e6, a1, e8]
    simp at a2
    simp [a2]
    simp at ef
    rw [ef]
    simp [e9, e10, e5]
    exact last _ _ _
end Lw

/-! the whole law -/
namespace Lw
open PySem Ev
variable {P : Par} {n : Nat} {c : Cup}
/-- no list of one's own -/
def LeafO (o : Option T) : Prop := o = none ∨ ∃ d, o = some (.leaf d)
theorem law_in {o0 o2 o5 : Option T} (m w : Nat) (m1 : 1 ≤ m) (m2 : m ≤ 12) (w1 : 1 ≤ w) (w2 : w ≤ 12) : ∀ (l : List D) (c : Cup) (o3 o4 o8 : Option T), LeafO o8 → GC c → ∃ o3' o4' o8' c', forL (ev (callF tb P (n + 8)) (.var 8)).g (execs P (callF tb P (n + 8)) [.asg (.tup [.var 3, .var 4]) (.call 39 [.var 1, .var 6, .var 7]), .ifs (.not (.call 40 [.var 1, .var 3, .var 4])) [.ret (.con (.bl false))] []]) l
      ⟨[o0, some (.leaf .cup), o2, o3, o4, o5, some (.leaf (.int m)), some (.leaf (.int w)), o8], c⟩ = .nx ⟨[o0, some (.leaf .cup), o2, o3', o4', o5, some (.leaf (.int m)), some (.leaf (.int w)), o8'], c'⟩ ∧ LeafO o8' ∧ GC c'
  | [], c, o3, o4, o8, h8, hc => ⟨o3, o4, o8, c, rfl, h8, hc⟩
  | x :: l, c, o3, o4, o8, h8, hc => by
    obtain ⟨R, C, c1, e1, ⟨hR, hC⟩, g1⟩ := c_law_two (P := P) (n := n + 5) m w m1 m2 w1 w2 hc
    obtain ⟨c2, e2, g2⟩ := c_law_right (P := P) (n := n + 1) hR hC g1
    obtain ⟨o3', o4', o8', c', e, g⟩ := law_in (o0 := o0) (o2 := o2) (o5 := o5) m w m1 m2 w1 w2 l c2 (some (.leaf (.tup (JL R)))) (some (.leaf (.tup (JL C)))) (some (.leaf x)) (.inr ⟨x, rfl⟩) g2
    refine ⟨o3', o4', o8', c', ?_, g⟩
    rw [← e]
    simp [e1, e2]
theorem law_out {o0 o2 o5 : Option T} : ∀ (l : List (Nat × Nat)) (c : Cup) (o3 o4 o6 o7 o8 : Option T), LeafO o8 → (∀ p ∈ l, (1 ≤ p.1 ∧ p.1 ≤ 12) ∧ 1 ≤ p.2 ∧ p.2 ≤ 12) → GC c → ∃ o3' o4' o6' o7' o8' c', forL (ev (callF tb P (n + 8)) (.tup [.var 6, .var 7])).g (execs P (callF tb P (n + 8)) [.for_ (.var 8) (.rng (.con (.int 3))) [.asg (.tup [.var 3, .var 4]) (.call 39 [.var 1, .var 6, .var 7]), .ifs (.not (.call 40 [.var 1, .var 3, .var 4])) [.ret (.con (.bl false))] []]]) (l.map fun p => D.tup [.int p.1, .int p.2])
      ⟨[o0, some (.leaf .cup), o2, o3, o4, o5, o6, o7, o8], c⟩ = .nx ⟨[o0, some (.leaf .cup), o2, o3', o4', o5, o6', o7', o8'], c'⟩ ∧ LeafO o8' ∧ GC c'
  | [], c, o3, o4, o6, o7, o8, h8, _, hc => ⟨o3, o4, o6, o7, o8, c, rfl, h8, hc⟩
  | (m, w) :: l, c, o3, o4, o6, o7, o8, h8, hl, hc => by
    have hm := hl _ List.mem_cons_self
    obtain ⟨p3, p4, p8, c1, e1, k8, g1⟩ := law_in (P := P) (n := n) (o0 := o0) (o2 := o2) (o5 := o5) m w hm.1.1 hm.1.2 hm.2.1 hm.2.2 ((List.range 3).map fun (j : Nat) => D.int j) c o3 o4 o8 h8 hc
    obtain ⟨o3', o4', o6', o7', o8', c', e, g⟩ := law_out (o0 := o0) (o2 := o2) (o5 := o5) l c1 p3 p4 (some (.leaf (.int m))) (some (.leaf (.int w))) p8 k8 (fun p hp => hl p (List.mem_cons_of_mem _ hp)) g1
    refine ⟨o3', o4', o6', o7', o8', c', ?_, g⟩
    have hrng := rng_nat (F := callF tb P (n + 8)) (a := .con (.int 3)) (z := true) (k := 3) (s := ⟨[o0, some (.leaf .cup), o2, o3, o4, o5, some (.leaf (.int m)), some (.leaf (.int w)), o8], c⟩) (s1 := ⟨[o0, some (.leaf .cup), o2, o3, o4, o5, some (.leaf (.int m)), some (.leaf (.int w)), o8], c⟩) rfl (by unfold big; omega)
    rw [List.map_cons, ← e]
    simp only [forL_cons, tup_g, val_d, items_T, tupG_some]
    simp only [evs_cons, evs_nil, List.length_cons, List.length_nil, if_true, sGs_cons, sGs_nil, var_g]
    simp [-List.map_map]
    rw [hrng, out_ok, e1]
    simp
theorem law_draw {o0 o2 o3 o4 o5 o6 o7 o8 : Option T} (h8 : LeafO o8) (hc : GC c) : ∃ (R : List Int) (c' : Cup), (ev (callF tb P (n + 8)) (.bi .tuple [.comp [8] (.var 8) (.rng (.bin .add (.con (.int 1)) (.call 27 [.var 1, .con (.int 4)]))) (.con (.bl true)) (.call 27 [.var 1, .con (.int 5)])])).b ⟨[o0, some (.leaf .cup), o2, o3, o4, o5, o6, o7, o8], c⟩ = .ok (.val (.tup (JL R))) ⟨[o0, some (.leaf .cup), o2, o3, o4, o5, o6, o7, o8], c'⟩ ∧ (Ct R ∧ R.length ≤ 4) ∧ GC c' := by
  obtain ⟨k, c1, e1, ⟨b1, b1'⟩, g1⟩ := c_roll (P := P) (n := n + 7) 4 (by omega) (by omega) hc
  obtain ⟨k, rfl⟩ := Int.eq_ofNat_of_zero_le b1
  obtain ⟨N, hN⟩ : ∃ N : Nat, N = k + 1 := ⟨_, rfl⟩
  have i1 : (1 : Int) + (k : Int) = (N : Int) := by omega
  obtain ⟨ys, c2, e2, a2, g2⟩ := comp_R (β := Int) (F := callF tb P (n + 8)) (g := .var 8) (it := .rng (.bin .add (.con (.int 1)) (.call 27 [.var 1, .con (.int 4)]))) (c := .con (.bl true)) (e := .call 27 [.var 1, .con (.int 5)]) (vs := [8]) (fun (j : Nat) => D.int j) GC (fun _ y => 0 ≤ y ∧ y ≤ 4) (l := List.range N)
    (s := ⟨[o0, some (.leaf .cup), o2, o3, o4, o5, o6, o7, o8], c⟩) (s2 := ⟨[o0, some (.leaf .cup), o2, o3, o4, o5, o6, o7, o8], c1⟩)
    (rng_nat (by simp [e1, i1]) (by unfold big; omega)) (by rcases h8 with rfl | ⟨d, rfl⟩ <;> rfl) (by rw [List.length_range]; unfold big; omega) g1 (fun x hx k hk => by
      obtain ⟨d, k', e, ⟨b, b'⟩, g⟩ := c_roll (P := P) (n := n + 7) 5 (by omega) (by omega) hk
      exact ⟨d, k', by simp [turn1, wipe, e], ⟨b, by omega⟩, g⟩)
  have hl := a2.len
  rw [List.length_range] at hl
  refine ⟨ys, c2, ?_, ⟨⟨by omega, fun y hy => ?_⟩, by omega⟩, g2⟩
  · rcases h8 with rfl | ⟨d, rfl⟩ <;> simp [e2, wipe, back]
  · have := a2.right (R := fun y => 0 ≤ y ∧ y ≤ 4) (fun _ _ h => h) y hy
    omega
theorem ct_lit {xs : List Int} (h1 : 1 ≤ xs.length) (h2 : xs.length ≤ 12) (h : (xs.all fun x => decide (0 ≤ x) && decide (x ≤ 12)) = true) : Ct xs := ⟨⟨h1, h2⟩, fun x hx => by
  have := List.all_eq_true.1 h x hx
  simpa using this⟩
theorem law_all (ns : List Int) (hn : ns.length ≤ 63) : TT (execs P (callF tb P (n + 8)) b_law ⟨[some (.leaf (.ro ns)), none, none, none, none, none, none, none, none], none⟩) := by
  obtain ⟨x, y, e0, g0⟩ := c_cup (P := P) (n := n + 7) ns (by omega)
  have ct1 : Ct [2, 1] := ct_lit (by simp) (by simp) (by decide)
  have ct2 : Ct [3, 0] := ct_lit (by simp) (by simp) (by decide)
  have ct3 : Ct [0, 3] := ct_lit (by simp) (by simp) (by decide)
  have ct4 : Ct [1] := ct_lit (by simp) (by simp) (by decide)
  have ct5 : Ct [0] := ct_lit (by simp) (by simp) (by decide)
  have ct6 : Ct [1, 1] := ct_lit (by simp) (by simp) (by decide)
  have f1 : ∀ c : Cup, callF tb P (n + 8) 21 [.tup [.int 2, .int 1], .tup [.int 2, .int 1]] c = .ok (.val (.bl true)) c := fun c => by
    have h := c_can_be_marked (P := P) (n := n + 2) (c := c) ct1 ct1
    have e : (brks [2, 1] [2, 1]).isEmpty = true := by decide +kernel
    rw [e] at h; exact h
  have f2 : ∀ c : Cup, callF tb P (n + 8) 21 [.tup [.int 2, .int 1], .tup [.int 3, .int 0]] c = .ok (.val (.bl false)) c := fun c => by
    have h := c_can_be_marked (P := P) (n := n + 2) (c := c) ct1 ct2
    have e : (brks [2, 1] [3, 0]).isEmpty = false := by decide +kernel
    rw [e] at h; exact h
  have f3 : ∀ c : Cup, callF tb P (n + 8) 23 [.tup [.int 2, .int 1], .tup [.int 3, .int 0]] c = .ok (.val (.tup [.str "columns", .int 1])) c := fun c => by
    have h := c_mark_break (P := P) (n := n + 2) (c := c) ct1 ct2
    have e : brkN [2, 1] [3, 0] = [1] := by decide +kernel
    unfold brks at h
    rw [e] at h; exact h
  have f4 : ∀ c : Cup, callF tb P (n + 8) 23 [.tup [.int 1], .tup [.int 0]] c = .ok (.val (.tup [.str "sum"])) c := fun c => by
    have h := c_mark_break (P := P) (n := n + 2) (c := c) ct4 ct5
    have e : brkN [1] [0] = [] := by decide +kernel
    unfold brks at h
    rw [e] at h; exact h
  have f5 : ∀ c : Cup, callF tb P (n + 8) 23 [.tup [.int 1], .tup [.int 1]] c = .ok (.val .non) c := fun c => by
    have h := c_mark_break (P := P) (n := n + 2) (c := c) ct4 ct4
    have e : brkN [1] [1] = [] := by decide +kernel
    unfold brks at h
    rw [e] at h; exact h
  have f6 : ∀ c : Cup, callF tb P (n + 8) 24 [.tup [.int 2, .int 1], .tup [.int 3, .int 0], .tup [.str "columns", .int 2]] c = .ok (.val (.bl false)) c := fun c => by
    have h := c_is_mark_break (P := P) (n := n + 2) (c := c) (k := 1) (v := .tup [.str "columns", .int 2]) ct1 ct2 (.tup 0 _ (by unfold big; simp) (.cons (.str 0 _ (by decide +kernel)) (.cons (.int 0 _) (.nil 0)))) (by omega)
    have e : mbD [2, 1] [3, 0] (.tup [.str "columns", .int 2]) = false := by decide +kernel
    rw [e] at h; exact h
  have f7 : ∀ c : Cup, callF tb P (n + 8) 21 [.tup [.int 2, .int 1], .tup [.int 0, .int 3]] c = .ok (.val (.bl false)) c := fun c => by
    have h := c_can_be_marked (P := P) (n := n + 2) (c := c) ct1 ct3
    have e : (brks [2, 1] [0, 3]).isEmpty = false := by decide +kernel
    rw [e] at h; exact h
  have f8 : ∀ c : Cup, callF tb P (n + 8) 24 [.tup [.int 1], .tup [.int 1, .int 1], .tup [.str "sum"]] c = .ok (.val (.bl true)) c := fun c => by
    have h := c_is_mark_break (P := P) (n := n + 2) (c := c) (k := 1) (v := .tup [.str "sum"]) ct4 ct6 (.tup 0 _ (by unfold big; simp) (.cons (.str 0 _ (by decide +kernel)) (.nil 0))) (by omega)
    have e : mbD [1] [1, 1] (.tup [.str "sum"]) = true := by decide +kernel
    rw [e] at h; exact h
  have l1 := like_refl (P := P) (k := 2) (d := .lst [.bl true, .bl false, .tup [.str "columns", .int 1], .tup [.str "sum"], .non, .bl false, .bl false, .bl true])
    (by repeat (first | exact .int _ _ | exact .bl _ _ | exact .non _ | exact .nil _ | exact .str _ _ (by decide +kernel) | refine .lst _ _ (by unfold big; simp) ?_ | refine .tup _ _ (by unfold big; simp) ?_ | refine .cons ?_ ?_)) (n + 4) (some (x, y)) (by omega)
  have hadd : binop .add (.lst [.bl true, .bl false, .tup [.str "columns", .int 1], .tup [.str "sum"], .non]) (.lst [.bl false, .bl false, .bl true]) = some (.new [.bl true, .bl false, .tup [.str "columns", .int 1], .tup [.str "sum"], .non, .bl false, .bl false, .bl true]) := op_addL (by unfold big; simp)
  obtain ⟨o3, o4, o6, o7, o8, c1, ef, k8, g1⟩ := law_out (P := P) (n := n) (o0 := some (.leaf (.ro ns))) (o2 := some (.leaf (.lst [.bl true, .bl false, .tup [.str "columns", .int 1], .tup [.str "sum"], .non, .bl false, .bl false, .bl true]))) (o5 := none) [(2, 2), (3, 4), (6, 5), (12, 12)] (some (x, y)) none none none none none (.inl rfl) (by simp) g0
  have hcup : cup2? (.new [.int x, .int y]) = some (x, y) := rfl
  obtain ⟨R, c2, ed1, ⟨hR, r4⟩, g2⟩ := law_draw (P := P) (n := n) (o0 := some (.leaf (.ro ns))) (o2 := some (.leaf (.lst [.bl true, .bl false, .tup [.str "columns", .int 1], .tup [.str "sum"], .non, .bl false, .bl false, .bl true]))) (o3 := o3) (o4 := o4) (o5 := none) (o6 := o6) (o7 := o7) k8 g1
  obtain ⟨C, c3, ed2, ⟨hC, cl4⟩, g3⟩ := law_draw (P := P) (n := n) (o0 := some (.leaf (.ro ns))) (o2 := some (.leaf (.lst [.bl true, .bl false, .tup [.str "columns", .int 1], .tup [.str "sum"], .non, .bl false, .bl false, .bl true]))) (o3 := some (.leaf (.tup (JL R)))) (o4 := o4) (o5 := none) (o6 := o6) (o7 := o7) k8 g2
  have e3 := c_can_be_marked (P := P) (n := n + 2) (c := c3) hR hC
  have e4 := c_count_mark_tables (P := P) (n := n + 2) (c := c3) R C hR.fit hC.fit (by omega) (by omega)
  have e5 := c_law_count (P := P) (n := n + 6) (c := c3) R C (by omega) (by omega)
  have p1 : decide (0 < Mc C.length R C) = (brks R C).isEmpty := by
    rw [Bool.eq_iff_iff, decide_eq_true_iff, List.isEmpty_iff, brks_nil hR.nn, ← Mc_pos (n := C.length) hR.nn hR.1.1 hR.1.2 rfl hC.1.1 hC.1.2]
  have p2 : decide (0 < Mc R.length C R) = (brks R C).isEmpty := by
    rw [Bool.eq_iff_iff, decide_eq_true_iff, List.isEmpty_iff, brks_nil hR.nn, Pm.comm, ← Mc_pos (n := R.length) hC.nn hC.1.1 hC.1.2 rfl hR.1.1 hR.1.2]
  have hm : ∀ b : Bool, binop .mul (.lst [.bl b]) (.int 2) = some (.new [.bl b, .bl b]) := fun b => rfl
  have l2 : ∀ (b : Bool) (c : Cup), callF tb P (n + 8) 30 [.lst [.bl b, .bl b], .lst [.bl b, .bl b]] c = .ok (.val (.bl true)) c := fun b c => like_refl (P := P) (.lst 0 _ (by unfold big; simp) (.cons (.bl 0 b) (.cons (.bl 0 b) (.nil 0)))) (n + 5) c (by omega)
  obtain ⟨w, t, c4, e6, ⟨ht, _, _⟩, g4⟩ := c_law_marks (P := P) (n := n + 6) 8 8 (by omega) (by omega) (by omega) (by omega) g3
  change callF tb P (n + 8) 34 [.cup, .int 8, .int 8] c3 = _ at e6
  have e7 := c_counts_of (P := P) (n := n + 7) (c := c4) t ht
  obtain ⟨cr, cc⟩ := ht.ct
  have pmt := Pm.tab ht
  obtain ⟨k, c5, e8, ⟨b8, b8'⟩, g5⟩ := c_roll (P := P) (n := n + 7) 4 (by omega) (by omega) g4
  obtain ⟨k, rfl⟩ := Int.eq_ofNat_of_zero_le b8
  obtain ⟨N, hN⟩ : ∃ N : Nat, N = k + 1 := ⟨_, rfl⟩
  have i1 : (1 : Int) + (k : Int) = (N : Int) := by omega
  have ccl := cc.1
  obtain ⟨f, c6, e9, hf, g6⟩ := c_law_evener (P := P) (n := n + 6) (cols w t) N (by omega) ccl.1 (by omega) (fun x hx => by have := cc.2 x hx; omega) g5
  have ctf : Ct f := ⟨by rw [hf.len]; exact ccl, fun x hx => by
    obtain ⟨⟨y, hy, l1⟩, z, hz, l2⟩ := hf.bd x hx
    have := cc.2 y hy
    have := cc.2 z hz
    omega⟩
  have e10 := c_can_be_marked (P := P) (n := n + 2) (c := c6) cr ctf
  have p3 : (brks (t.map List.sum) f).isEmpty = true := by
    rw [List.isEmpty_iff, brks_nil cr.nn]
    exact hf.pm pmt
  rw [p3] at e10
  unfold b_law
  simp [e0, hcup, f1, f2, f3, f4, f5, f6, f7, f8, hadd, l1]
  simp at ef
  rw [ef]
  simp
  simp at ed1 ed2
  rw [ed1]
  simp
  rw [ed2]
  simp [e3, e4, e5, p1, p2, hm, l2, e6, e7, e8, i1, e9, e10]
end Lw

namespace Hd
open PySem PySem.Spec PyProof.Rows L2
def top (i : Nat) : Stmt := PySem.Challenge.pw_moreeven_k76_whole_counts_that_can_be_ma.main.body.getD i (.Pass ⟨0, 0, 0, 0⟩)
def d_is_integer : He.DefD := ⟨("is_integer", none), "is_integer", "is_integer", defArgs (top 7), defBody (top 7), defScope (top 7), [], []⟩
def d_is_whole : He.DefD := ⟨("is_whole", none), "is_whole", "is_whole", defArgs (top 8), defBody (top 8), defScope (top 8), [], []⟩
def d_need_whole : He.DefD := ⟨("need_whole", none), "need_whole", "need_whole", defArgs (top 9), defBody (top 9), defScope (top 9), [], []⟩
def d_is_tuple_of : He.DefD := ⟨("is_tuple_of", none), "is_tuple_of", "is_tuple_of", defArgs (top 10), defBody (top 10), defScope (top 10), [], []⟩
def d_fits_row : He.DefD := ⟨("fits_row", none), "fits_row", "fits_row", defArgs (top 11), defBody (top 11), defScope (top 11), [], []⟩
def d_need_row : He.DefD := ⟨("need_row", none), "need_row", "need_row", defArgs (top 12), defBody (top 12), defScope (top 12), [], []⟩
def d_need_as_long : He.DefD := ⟨("need_as_long", none), "need_as_long", "need_as_long", defArgs (top 13), defBody (top 13), defScope (top 13), [], []⟩
def d_falling : He.DefD := ⟨("falling", none), "falling", "falling", defArgs (top 14), defBody (top 14), defScope (top 14), [], []⟩
def d_fronts_in : He.DefD := ⟨("fronts_in", none), "fronts_in", "fronts_in", defArgs (top 15), defBody (top 15), defScope (top 15), [], []⟩
def d_is_as_even_in : He.DefD := ⟨("is_as_even_in", none), "is_as_even_in", "is_as_even_in", defArgs (top 16), defBody (top 16), defScope (top 16), [], []⟩
def d_is_as_even : He.DefD := ⟨("is_as_even", none), "is_as_even", "is_as_even", defArgs (top 17), defBody (top 17), defScope (top 17), [], []⟩
def d_fits_counts : He.DefD := ⟨("fits_counts", none), "fits_counts", "fits_counts", defArgs (top 22), defBody (top 22), defScope (top 22), [], []⟩
def d_need_counts : He.DefD := ⟨("need_counts", none), "need_counts", "need_counts", defArgs (top 23), defBody (top 23), defScope (top 23), [], []⟩
def d_mark_counts_in : He.DefD := ⟨("mark_counts_in", none), "mark_counts_in", "mark_counts_in", defArgs (top 24), defBody (top 24), defScope (top 24), [], []⟩
def d_over_in : He.DefD := ⟨("over_in", none), "over_in", "over_in", defArgs (top 25), defBody (top 25), defScope (top 25), [], []⟩
def d_mark_breaks_in : He.DefD := ⟨("mark_breaks_in", none), "mark_breaks_in", "mark_breaks_in", defArgs (top 26), defBody (top 26), defScope (top 26), [], []⟩
def d_marked_in : He.DefD := ⟨("marked_in", none), "marked_in", "marked_in", defArgs (top 27), defBody (top 27), defScope (top 27), [], []⟩
def d_rows_with : He.DefD := ⟨("rows_with", none), "rows_with", "rows_with", defArgs (top 28), defBody (top 28), defScope (top 28), [], []⟩
def d_tables_counted : He.DefD := ⟨("tables_counted", none), "tables_counted", "tables_counted", defArgs (top 29), defBody (top 29), defScope (top 29), [], []⟩
def d_need_two_counts : He.DefD := ⟨("need_two_counts", none), "need_two_counts", "need_two_counts", defArgs (top 30), defBody (top 30), defScope (top 30), [], []⟩
def d_turned_over : He.DefD := ⟨("turned_over", none), "turned_over", "turned_over", defArgs (top 31), defBody (top 31), defScope (top 31), [], []⟩
def d_can_be_marked : He.DefD := ⟨("can_be_marked", none), "can_be_marked", "can_be_marked", defArgs (top 32), defBody (top 32), defScope (top 32), [], []⟩
def d_mark_table : He.DefD := ⟨("mark_table", none), "mark_table", "mark_table", defArgs (top 33), defBody (top 33), defScope (top 33), [], []⟩
def d_mark_break : He.DefD := ⟨("mark_break", none), "mark_break", "mark_break", defArgs (top 34), defBody (top 34), defScope (top 34), [], []⟩
def d_is_mark_break : He.DefD := ⟨("is_mark_break", none), "is_mark_break", "is_mark_break", defArgs (top 35), defBody (top 35), defScope (top 35), [], []⟩
def d_count_mark_tables : He.DefD := ⟨("count_mark_tables", none), "count_mark_tables", "count_mark_tables", defArgs (top 36), defBody (top 36), defScope (top 36), [], []⟩
def d__law_cup : He.DefD := ⟨("_law_cup", none), "_law_cup", "_law_cup", defArgs (top 38), defBody (top 38), defScope (top 38), [], []⟩
def d__law_roll : He.DefD := ⟨("_law_roll", none), "_law_roll", "_law_roll", defArgs (top 39), defBody (top 39), defScope (top 39), [], []⟩
def d__law_some : He.DefD := ⟨("_law_some", none), "_law_some", "_law_some", defArgs (top 40), defBody (top 40), defScope (top 40), [], []⟩
def d__law_sort : He.DefD := ⟨("_law_sort", none), "_law_sort", "_law_sort", defArgs (top 41), defBody (top 41), defScope (top 41), [], []⟩
def d__law_like : He.DefD := ⟨("_law_like", none), "_law_like", "_law_like", defArgs (top 42), defBody (top 42), defScope (top 42), [], []⟩
def d__law_falling : He.DefD := ⟨("_law_falling", none), "_law_falling", "_law_falling", defArgs (top 43), defBody (top 43), defScope (top 43), [], []⟩
def d__law_evener : He.DefD := ⟨("_law_evener", none), "_law_evener", "_law_evener", defArgs (top 44), defBody (top 44), defScope (top 44), [], []⟩
def d__law_bent : He.DefD := ⟨("_law_bent", none), "_law_bent", "_law_bent", defArgs (top 45), defBody (top 45), defScope (top 45), [], []⟩
def d__law_marks : He.DefD := ⟨("_law_marks", none), "_law_marks", "_law_marks", defArgs (top 46), defBody (top 46), defScope (top 46), [], []⟩
def d__law_counts_of : He.DefD := ⟨("_law_counts_of", none), "_law_counts_of", "_law_counts_of", defArgs (top 47), defBody (top 47), defScope (top 47), [], []⟩
def d__law_breaks : He.DefD := ⟨("_law_breaks", none), "_law_breaks", "_law_breaks", defArgs (top 48), defBody (top 48), defScope (top 48), [], []⟩
def d__law_all_rows : He.DefD := ⟨("_law_all_rows", none), "_law_all_rows", "_law_all_rows", defArgs (top 49), defBody (top 49), defScope (top 49), [], []⟩
def d__law_count : He.DefD := ⟨("_law_count", none), "_law_count", "_law_count", defArgs (top 50), defBody (top 50), defScope (top 50), [], []⟩
def d__law_two : He.DefD := ⟨("_law_two", none), "_law_two", "_law_two", defArgs (top 51), defBody (top 51), defScope (top 51), [], []⟩
def d__law_right : He.DefD := ⟨("_law_right", none), "_law_right", "_law_right", defArgs (top 52), defBody (top 52), defScope (top 52), [], []⟩
def d_law : He.DefD := ⟨("law", none), "law", "law", defArgs (top 53), defBody (top 53), defScope (top 53), [], []⟩
def fn_0 : List He.DefD := [d_is_integer, d_is_whole, d_need_whole, d_is_tuple_of, d_fits_row, d_need_row, d_need_as_long, d_falling, d_fronts_in, d_is_as_even_in, d_is_as_even, d_fits_counts, d_need_counts, d_mark_counts_in, d_over_in, d_mark_breaks_in, d_marked_in, d_rows_with, d_tables_counted, d_need_two_counts]
def fn_1 : List He.DefD := [d_turned_over, d_can_be_marked, d_mark_table, d_mark_break, d_is_mark_break, d_count_mark_tables, d__law_cup, d__law_roll, d__law_some, d__law_sort, d__law_like, d__law_falling, d__law_evener, d__law_bent, d__law_marks, d__law_counts_of, d__law_breaks, d__law_all_rows, d__law_count, d__law_two]
def fn_2 : List He.DefD := [d__law_right, d_law]
def fn : List He.DefD := fn_0 ++ (fn_1 ++ (fn_2))
def fa_0 : List He.Fa := [.glo "is_integer", .glo "is_whole", .glo "need_whole", .glo "is_tuple_of", .glo "fits_row", .glo "need_row", .glo "need_as_long", .glo "falling", .glo "fronts_in", .glo "is_as_even_in", .glo "is_as_even", .glo "fits_counts", .glo "need_counts", .glo "mark_counts_in", .glo "over_in", .glo "mark_breaks_in", .glo "marked_in", .glo "rows_with", .glo "tables_counted", .glo "need_two_counts"]
def fa_1 : List He.Fa := [.glo "turned_over", .glo "can_be_marked", .glo "mark_table", .glo "mark_break", .glo "is_mark_break", .glo "count_mark_tables", .glo "_law_cup", .glo "_law_roll", .glo "_law_some", .glo "_law_sort", .glo "_law_like", .glo "_law_falling", .glo "_law_evener", .glo "_law_bent", .glo "_law_marks", .glo "_law_counts_of", .glo "_law_breaks", .glo "_law_all_rows", .glo "_law_count", .glo "_law_two"]
def fa_2 : List He.Fa := [.glo "_law_right", .glo "law", .free "ValueError", .free "abs", .free "all", .free "bool", .free "enumerate", .free "int", .free "isinstance", .free "len", .free "list", .free "max", .free "min", .free "range", .free "sorted", .free "str", .free "sum", .free "tuple", .free "zip", .int "MOST_SIZE" (12)]
def fa_3 : List He.Fa := [.int "FAR" (1000000), .int "FEW_LINES" (6), .str "SUM" "sum", .str "COLUMNS" "columns", .glo "EvenError", .exc "EvenError", .glo "InvalidRow", .exc "InvalidRow", .glo "InvalidNumber", .exc "InvalidNumber"]
def fa : List He.Fa := fa_0 ++ (fa_1 ++ (fa_2 ++ (fa_3)))
abbrev R : PySem.W.OpenRow := PySem.W.OpenLaw.row PySem.Challenge.rw_moreeven_k76_whole_counts_that_can_be_ma
abbrev hk : PySem.W.Hook := He.hookD 4 fa fn
def ob (s : PySem.W.SharedT) : He.AlD := He.obsDG 4 fa fn (HandSHeadRun.getT s)
theorem ob_eq (s : PySem.W.SharedT) : ob s = hk.obs s.abs := He.obsDG_eq (HandSHeadRun.getT_eq s)
def loose_0 : List PySem.Str := ["__name__", "EvenError", "InvalidRow", "InvalidNumber", "MOST_SIZE", "FAR", "is_integer", "is_whole", "need_whole", "is_tuple_of", "fits_row", "need_row", "need_as_long", "falling", "fronts_in", "is_as_even_in", "is_as_even", "FEW_LINES", "SUM", "COLUMNS"]
def loose_1 : List PySem.Str := ["fits_counts", "need_counts", "mark_counts_in", "over_in", "mark_breaks_in", "marked_in", "rows_with", "tables_counted", "need_two_counts", "turned_over", "can_be_marked", "mark_table", "mark_break", "is_mark_break", "count_mark_tables", "_law_cup", "_law_roll", "_law_some", "_law_sort", "_law_like"]
def loose_2 : List PySem.Str := ["_law_falling", "_law_evener", "_law_bent", "_law_marks", "_law_counts_of", "_law_breaks", "_law_all_rows", "_law_count", "_law_two", "_law_right"]
def loose : List PySem.Str := loose_0 ++ (loose_1 ++ (loose_2))
theorem run (w : World) : HandSHeadRun.RunEq R (PySem.W.view R.prog [53]) hk ob 3000 loose w := by
  intro os
  kernel_rfl
end Hd
namespace Hd
open PySem Ev
def b_is_integer : List S := [.ret (.and (.isi .int (.var 0)) (.not (.isi .bool (.var 0))))]
def D_is_integer : DefI := ⟨d_is_integer, ["value"], ["value"], ⟨1, 1, b_is_integer⟩⟩
def b_is_whole : List S := [.ret (.and (.call 0 [.var 0]) (.chain .le .le (.var 1) (.var 0) (.var 2)))]
def D_is_whole : DefI := ⟨d_is_whole, ["value", "low", "high"], ["value", "low", "high"], ⟨3, 3, b_is_whole⟩⟩
def b_need_whole : List S := [.ifs (.not (.call 1 [.var 0, .var 1, .var 2])) [.raise 2] []]
def D_need_whole : DefI := ⟨d_need_whole, ["value", "low", "high"], ["value", "low", "high"], ⟨3, 3, b_need_whole⟩⟩
def b_is_tuple_of : List S := [.ret (.and (.isi .tuple (.var 0)) (.chain .le .le (.var 1) (.bi .len [.var 0]) (.var 2)))]
def D_is_tuple_of : DefI := ⟨d_is_tuple_of, ["value", "low", "high"], ["value", "low", "high"], ⟨3, 3, b_is_tuple_of⟩⟩
def b_fits_row : List S := [.ret (.and (.call 3 [.var 0, .con (.int 1), .con (.int (12))]) (.bi .all [.comp [1] (.var 1) (.var 0) (.con (.bl true)) (.call 1 [.var 1, .neg (.con (.int (1000000))), .con (.int (1000000))])]))]
def D_fits_row : DefI := ⟨d_fits_row, ["value", "number"], ["value"], ⟨1, 2, b_fits_row⟩⟩
def b_need_row : List S := [.ifs (.not (.call 4 [.var 0])) [.raise 1] []]
def D_need_row : DefI := ⟨d_need_row, ["value"], ["value"], ⟨1, 1, b_need_row⟩⟩
def b_need_as_long : List S := [.ifs (.or (.not (.call 4 [.var 1])) (.cmp .ne (.bi .len [.var 1]) (.bi .len [.var 0]))) [.raise 1] []]
def D_need_as_long : DefI := ⟨d_need_as_long, ["row", "value"], ["row", "value"], ⟨2, 2, b_need_as_long⟩⟩
def b_falling : List S := [.ret (.bi .tuple [.bi .sortedR [.var 0]])]
def D_falling : DefI := ⟨d_falling, ["row"], ["row"], ⟨1, 1, b_falling⟩⟩
def b_fronts_in : List S := [.par [2, 3] [.lst [], .con (.int 0)], .for_ (.var 1) (.call 7 [.var 0]) [.asg (.var 3) (.bin .add (.var 3) (.var 1)), .append 2 (.var 3)], .ret (.bi .tuple [.var 2])]
def D_fronts_in : DefI := ⟨d_fronts_in, ["row", "number", "found", "whole"], ["row"], ⟨1, 4, b_fronts_in⟩⟩
def b_is_as_even_in : List S := [.par [2, 3] [.call 8 [.var 0], .call 8 [.var 1]], .ret (.and (.cmp .eq (.ix (.var 2) (.neg (.con (.int 1)))) (.ix (.var 3) (.neg (.con (.int 1))))) (.bi .all [.comp [4, 5] (.tup [.var 4, .var 5]) (.zip [.var 2, .var 3]) (.con (.bl true)) (.cmp .le (.var 4) (.var 5))]))]
def D_is_as_even_in : DefI := ⟨d_is_as_even_in, ["row", "other", "one", "two", "here", "there"], ["row", "other"], ⟨2, 6, b_is_as_even_in⟩⟩
def b_is_as_even : List S := [.ex (.call 5 [.var 0]), .ex (.call 6 [.var 0, .var 1]), .ret (.call 9 [.var 0, .var 1])]
def D_is_as_even : DefI := ⟨d_is_as_even, ["row", "other"], ["row", "other"], ⟨2, 2, b_is_as_even⟩⟩
def b_fits_counts : List S := [.ret (.and (.call 3 [.var 0, .con (.int 1), .con (.int (12))]) (.bi .all [.comp [1] (.var 1) (.var 0) (.con (.bl true)) (.call 1 [.var 1, .con (.int 0), .con (.int (12))])]))]
def D_fits_counts : DefI := ⟨d_fits_counts, ["value", "number"], ["value"], ⟨1, 2, b_fits_counts⟩⟩
def b_need_counts : List S := [.ifs (.or (.not (.call 11 [.var 0])) (.cmp .gt (.bi .len [.var 0]) (.var 1))) [.raise 1] []]
def D_need_counts : DefI := ⟨d_need_counts, ["value", "most"], ["value", "most"], ⟨2, 2, b_need_counts⟩⟩
def b_mark_counts_in : List S := [.ret (.tup [.bi .tuple [.comp [1] (.var 1) (.var 0) (.con (.bl true)) (.bi .sum [.var 1])], .bi .tuple [.comp [2] (.var 2) (.zipS (.var 0)) (.con (.bl true)) (.bi .sum [.var 2])]])]
def D_mark_counts_in : DefI := ⟨d_mark_counts_in, ["table", "row", "column"], ["table"], ⟨1, 3, b_mark_counts_in⟩⟩
def b_over_in : List S := [.ret (.bi .tuple [.comp [2] (.var 2) (.rng (.var 1)) (.con (.bl true)) (.bi .len [.comp [3] (.var 3) (.var 0) (.cmp .gt (.var 3) (.var 2)) (.con (.int 1))])])]
def D_over_in : DefI := ⟨d_over_in, ["counts", "width", "at", "number"], ["counts", "width"], ⟨2, 4, b_over_in⟩⟩
def b_mark_breaks_in : List S := [.asg (.var 2) (.ife (.cmp .ne (.bi .sum [.var 0]) (.bi .sum [.var 1])) (.lst [.tup [.con (.str "sum")]]) (.lst [])), .asg (.var 3) (.bi .sortedR [.var 1]), .asg (.var 4) (.comp [4] (.var 4) (.rng2 (.con (.int 1)) (.bin .add (.bi .len [.var 1]) (.con (.int 1)))) (.cmp .gt (.bi .sum [.sl (.var 3) (.con .non) (.var 4)]) (.bi .sum [.call 14 [.var 0, .var 4]])) (.var 4)), .ret (.bin .add (.var 2) (.comp [5] (.var 5) (.var 4) (.con (.bl true)) (.tup [.con (.str "columns"), .var 5])))]
def D_mark_breaks_in : DefI := ⟨d_mark_breaks_in, ["rows", "columns", "found", "most", "many", "own"], ["rows", "columns"], ⟨2, 6, b_mark_breaks_in⟩⟩
def b_marked_in : List S := [.par [3, 4] [.bi .list [.var 1], .lst []], .for_ (.var 2) (.var 0) [.asg (.var 5) (.bi .sorted [.comp [8, 7] (.tup [.var 8, .var 7]) (.enum (.var 3)) (.con (.bl true)) (.tup [.neg (.var 7), .var 8])]), .asg (.var 6) (.comp [7, 8] (.tup [.var 7, .var 8]) (.sl (.var 5) (.con .non) (.var 2)) (.con (.bl true)) (.var 8)), .append 4 (.bi .tuple [.comp [8] (.var 8) (.rng (.bi .len [.var 3])) (.con (.bl true)) (.ife (.cmp .isin (.var 8) (.var 6)) (.con (.int 1)) (.con (.int 0)))]), .asg (.var 3) (.comp [7, 9] (.tup [.var 7, .var 9]) (.zip [.var 3, .ix (.var 4) (.neg (.con (.int 1)))]) (.con (.bl true)) (.bin .sub (.var 7) (.var 9)))], .ret (.ife (.cmp .eq (.call 13 [.var 4]) (.tup [.var 0, .var 1])) (.bi .tuple [.var 4]) (.con .non))]
def D_marked_in : DefI := ⟨d_marked_in, ["rows", "columns", "many", "left", "found", "order", "taken", "lack", "at", "mark"], ["rows", "columns"], ⟨2, 10, b_marked_in⟩⟩
def b_rows_with : List S := [.asg (.var 2) (.lst [.tup []]), .for_ (.var 3) (.rng (.var 0)) [.asg (.var 2) (.comp2 [4, 5] [5] (.var 4) (.var 2) (.con (.bl true)) (.var 5) (.tup [.con (.int 0), .con (.int 1)]) (.con (.bl true)) (.bin .add (.var 4) (.tup [.var 5])))], .ret (.comp [4] (.var 4) (.var 2) (.cmp .eq (.bi .sum [.var 4]) (.var 1)) (.var 4))]
def D_rows_with : DefI := ⟨d_rows_with, ["width", "many", "found", "turn", "row", "mark"], ["width", "many"], ⟨2, 6, b_rows_with⟩⟩
def b_tables_counted : List S := [.asg (.var 2) (.dnew1 (.var 1) (.con (.int 1))), .for_ (.var 3) (.var 0) [.asg (.var 4) (.dnew), .for_ (.var 5) (.call 17 [.bi .len [.var 1], .var 3]) [.lock 2, .for_ (.tup [.var 6, .var 7]) (.ditems 2) [.asg (.var 8) (.bi .tuple [.comp [9, 10] (.tup [.var 9, .var 10]) (.zip [.var 6, .var 5]) (.con (.bl true)) (.bin .sub (.var 9) (.var 10))]), .dput 4 (.var 8) (.bin .add (.dget (.var 4) (.var 8) (.con (.int 0))) (.var 7))]], .move 2 4], .ret (.dget (.var 2) (.bin .mul (.tup [.con (.int 0)]) (.bi .len [.var 1])) (.con (.int 0)))]
def D_tables_counted : DefI := ⟨d_tables_counted, ["rows", "columns", "ways", "many", "later", "row", "left", "own", "next_left", "lack", "mark"], ["rows", "columns"], ⟨2, 11, b_tables_counted⟩⟩
def b_need_two_counts : List S := [.ex (.call 12 [.var 0, .var 2]), .ex (.call 12 [.var 1, .var 2])]
def D_need_two_counts : DefI := ⟨d_need_two_counts, ["rows", "columns", "most"], ["rows", "columns", "most"], ⟨3, 3, b_need_two_counts⟩⟩
def b_turned_over : List S := [.ex (.call 12 [.var 0, .con (.int (12))]), .ex (.call 2 [.var 1, .con (.int 1), .con (.int (12))]), .ret (.call 14 [.var 0, .var 1])]
def D_turned_over : DefI := ⟨d_turned_over, ["counts", "width"], ["counts", "width"], ⟨2, 2, b_turned_over⟩⟩
def b_can_be_marked : List S := [.ex (.call 19 [.var 0, .var 1, .con (.int (12))]), .ret (.cmp .eq (.call 15 [.var 0, .var 1]) (.lst []))]
def D_can_be_marked : DefI := ⟨d_can_be_marked, ["rows", "columns"], ["rows", "columns"], ⟨2, 2, b_can_be_marked⟩⟩
def b_mark_table : List S := [.ex (.call 19 [.var 0, .var 1, .con (.int (12))]), .ret (.call 16 [.var 0, .var 1])]
def D_mark_table : DefI := ⟨d_mark_table, ["rows", "columns"], ["rows", "columns"], ⟨2, 2, b_mark_table⟩⟩
def b_mark_break : List S := [.ex (.call 19 [.var 0, .var 1, .con (.int (12))]), .asg (.var 2) (.call 15 [.var 0, .var 1]), .ret (.ife (.cmp .ne (.var 2) (.lst [])) (.ix (.var 2) (.con (.int 0))) (.con .non))]
def D_mark_break : DefI := ⟨d_mark_break, ["rows", "columns", "found"], ["rows", "columns"], ⟨2, 3, b_mark_break⟩⟩
def b_is_mark_break : List S := [.ex (.call 19 [.var 0, .var 1, .con (.int (12))]), .ifs (.or (.not (.call 3 [.var 2, .con (.int 1), .con (.int 2)])) (.not (.isi .str (.ix (.var 2) (.con (.int 0)))))) [.ret (.con (.bl false))] [], .ifs (.and (.cmp .eq (.bi .len [.var 2]) (.con (.int 2))) (.not (.call 1 [.ix (.var 2) (.con (.int 1)), .con (.int 1), .bi .len [.var 1]]))) [.ret (.con (.bl false))] [], .ret (.cmp .isin (.var 2) (.call 15 [.var 0, .var 1]))]
def D_is_mark_break : DefI := ⟨d_is_mark_break, ["rows", "columns", "value"], ["rows", "columns", "value"], ⟨3, 3, b_is_mark_break⟩⟩
def b_count_mark_tables : List S := [.ex (.call 19 [.var 0, .var 1, .con (.int (6))]), .ret (.call 18 [.var 0, .var 1])]
def D_count_mark_tables : DefI := ⟨d_count_mark_tables, ["rows", "columns"], ["rows", "columns"], ⟨2, 2, b_count_mark_tables⟩⟩
def b__law_cup : List S := [.asg (.var 1) (.bi .abs [.ix (.bin .add (.bi .list [.var 0]) (.lst [.con (.int 0)])) (.con (.int 0))]), .ret (.lst [.ife (.cmp .ge (.var 1) (.bin .pow (.con (.int 10)) (.con (.int 18)))) (.bin .fdiv (.var 1) (.con (.int 73))) (.con (.int 0)), .bin .add (.bin .mod (.bi .int [.bin .add (.bin .mul (.var 1) (.con (.int 283))) (.con (.int 3907))]) (.con (.int 2077503167))) (.con (.int 167))])]
def D__law_cup : DefI := ⟨d__law_cup, ["script", "cell"], ["script"], ⟨1, 2, b__law_cup⟩⟩
def b__law_roll : List S := [.ifs (.cmp .gt (.ix (.var 0) (.con (.int 0))) (.con (.int 0))) [.asg (.var 3) (.bin .mod (.bi .int [.ix (.var 0) (.con (.int 0))]) (.var 1)), .asg (.ix (.var 0) (.con (.int 0))) (.bin .fdiv (.ix (.var 0) (.con (.int 0))) (.var 1)), .ret (.var 3)] [], .asg (.ix (.var 0) (.con (.int 1))) (.bin .mod (.bi .int [.bin .add (.bin .mul (.ix (.var 0) (.con (.int 1))) (.con (.int 31051))) (.con (.int 7993))]) (.con (.int 2147483543))), .asg (.var 2) (.bin .mod (.bi .int [.bin .mul (.ix (.var 0) (.con (.int 1))) (.bin .add (.ix (.var 0) (.con (.int 1))) (.con (.int 229)))]) (.con (.int 2147483587))), .ret (.bin .mod (.bi .int [.bin .fdiv (.var 2) (.con (.int 821))]) (.var 1))]
def D__law_roll : DefI := ⟨d__law_roll, ["cup", "many", "deep", "found"], ["cup", "many"], ⟨2, 4, b__law_roll⟩⟩
def b__law_some : List S := [.ret (.ix (.var 1) (.call 27 [.var 0, .bi .len [.var 1]]))]
def D__law_some : DefI := ⟨d__law_some, ["cup", "things"], ["cup", "things"], ⟨2, 2, b__law_some⟩⟩
def b__law_sort : List S := [.ifs (.or (.cmp .is (.var 0) (.con .non)) (.isi .bool (.var 0))) [.ret (.ife (.cmp .is (.var 0) (.con .non)) (.con (.int 0)) (.con (.int 1)))] [], .ifs (.or (.isi .int (.var 0)) (.isi .str (.var 0))) [.ret (.ife (.isi .int (.var 0)) (.con (.int 2)) (.con (.int 3)))] [], .ret (.ife (.isi .tuple (.var 0)) (.con (.int 4)) (.ife (.isi .list (.var 0)) (.con (.int 5)) (.con (.int 6))))]
def D__law_sort : DefI := ⟨d__law_sort, ["value"], ["value"], ⟨1, 1, b__law_sort⟩⟩
def b__law_like : List S := [.asg (.var 2) (.call 29 [.var 1]), .ifs (.or (.cmp .ne (.call 29 [.var 0]) (.var 2)) (.cmp .eq (.var 2) (.con (.int 6)))) [.ret (.con (.bl false))] [], .ifs (.cmp .isin (.var 2) (.tup [.con (.int 4), .con (.int 5)])) [.ret (.and (.cmp .eq (.bi .len [.var 0]) (.bi .len [.var 1])) (.cmp .eq (.comp [3, 4] (.tup [.var 3, .var 4]) (.zip [.var 0, .var 1]) (.not (.call 30 [.var 3, .var 4])) (.con (.int 1))) (.lst [])))] [], .ret (.cmp .eq (.var 0) (.var 1))]
def D__law_like : DefI := ⟨d__law_like, ["one", "other", "sort", "first", "second"], ["one", "other"], ⟨2, 5, b__law_like⟩⟩
def b__law_falling : List S := [.ret (.bi .tuple [.bi .sortedR [.var 0]])]
def D__law_falling : DefI := ⟨d__law_falling, ["row"], ["row"], ⟨1, 1, b__law_falling⟩⟩
def b__law_evener : List S := [.asg (.var 3) (.bi .list [.var 1]), .for_ (.var 4) (.rng (.var 2)) [.par [5, 6] [.call 27 [.var 0, .bi .len [.var 3]], .call 27 [.var 0, .bi .len [.var 3]]], .ifs (.cmp .gt (.ix (.var 3) (.var 5)) (.ix (.var 3) (.var 6))) [.asg (.var 7) (.bin .add (.con (.int 1)) (.call 27 [.var 0, .bin .sub (.ix (.var 3) (.var 5)) (.ix (.var 3) (.var 6))])), .asg (.tup [.ix (.var 3) (.var 5), .ix (.var 3) (.var 6)]) (.tup [.bin .sub (.ix (.var 3) (.var 5)) (.var 7), .bin .add (.ix (.var 3) (.var 6)) (.var 7)])] []], .ret (.bi .tuple [.var 3])]
def D__law_evener : DefI := ⟨d__law_evener, ["cup", "row", "turns", "found", "turn", "one", "other", "many"], ["cup", "row", "turns"], ⟨3, 8, b__law_evener⟩⟩
def b__law_bent : List S := [.ifs (.or (.not (.isi .tuple (.var 1))) (.or (.cmp .eq (.var 1) (.tup [])) (.cmp .eq (.call 27 [.var 0, .con (.int 8)]) (.con (.int 0))))) [.asg (.var 2) (.lst [.con .non, .con (.bl true), .con (.bl false), .con (.int 0), .con (.int 1), .con (.int 2), .con (.int 5), .neg (.con (.int 1)), .con (.str ""), .tup [.con (.str "sum")], .tup [.con (.int 0), .con (.int 1)], .con (.int 2), .tup [], .lst []]), .ifs (.cmp .eq (.call 29 [.var 1]) (.con (.int 2))) [.asg (.var 2) (.bin .add (.var 2) (.lst [.bin .add (.var 1) (.con (.int 1)), .bin .add (.var 1) (.con (.int 1)), .bin .sub (.var 1) (.con (.int 1))]))] [], .ret (.call 28 [.var 0, .var 2])] [], .par [3, 4] [.call 27 [.var 0, .bi .len [.var 1]], .call 27 [.var 0, .con (.int 12)]], .ifs (.cmp .eq (.var 4) (.con (.int 0))) [.ret (.bin .add (.sl (.var 1) (.con .non) (.var 3)) (.sl (.var 1) (.bin .add (.var 3) (.con (.int 1))) (.con .non)))] [], .ifs (.cmp .eq (.var 4) (.con (.int 1))) [.ret (.bin .add (.sl (.var 1) (.con .non) (.bin .add (.var 3) (.con (.int 1)))) (.sl (.var 1) (.var 3) (.con .non)))] [], .ifs (.cmp .eq (.var 4) (.con (.int 2))) [.ret (.bi .list [.var 1])] [], .ifs (.cmp .eq (.var 4) (.con (.int 3))) [.ret (.rev (.var 1))] [], .ret (.bin .add (.bin .add (.sl (.var 1) (.con .non) (.var 3)) (.tup [.call 33 [.var 0, .ix (.var 1) (.var 3)]])) (.sl (.var 1) (.bin .add (.var 3) (.con (.int 1))) (.con .non)))]
def D__law_bent : DefI := ⟨d__law_bent, ["cup", "value", "some", "at", "way"], ["cup", "value"], ⟨2, 5, b__law_bent⟩⟩
def b__law_marks : List S := [.par [6, 7] [.bin .add (.con (.int 1)) (.call 27 [.var 0, .con (.int 9)]), .bin .add (.con (.int 1)) (.call 27 [.var 0, .var 1])], .asg (.var 3) (.bin .add (.con (.int 1)) (.call 27 [.var 0, .var 2])), .asg (.var 4) (.lst []), .for_ (.var 5) (.rng (.var 7)) [.append 4 (.bi .tuple [.comp [8] (.var 8) (.rng (.var 3)) (.con (.bl true)) (.ife (.cmp .lt (.call 27 [.var 0, .con (.int 10)]) (.var 6)) (.con (.int 1)) (.con (.int 0)))])], .ret (.bi .tuple [.var 4])]
def D__law_marks : DefI := ⟨d__law_marks, ["cup", "most", "wide", "columns", "found", "row", "share", "rows", "column"], ["cup", "most", "wide"], ⟨3, 9, b__law_marks⟩⟩
def b__law_counts_of : List S := [.asg (.var 1) (.lst []), .for_ (.var 2) (.rng (.bi .len [.ix (.var 0) (.con (.int 0))])) [.append 1 (.bi .sum [.comp [3] (.var 3) (.var 0) (.con (.bl true)) (.ix (.var 3) (.var 2))])], .ret (.tup [.bi .tuple [.comp [3] (.var 3) (.var 0) (.con (.bl true)) (.bi .sum [.var 3])], .bi .tuple [.var 1]])]
def D__law_counts_of : DefI := ⟨d__law_counts_of, ["table", "columns", "at", "row"], ["table"], ⟨1, 4, b__law_counts_of⟩⟩
def b__law_breaks : List S := [.par [3, 4] [.lst [], .call 31 [.var 1]], .ifs (.cmp .ne (.bi .sum [.var 0]) (.bi .sum [.var 1])) [.append 3 (.tup [.con (.str "sum")])] [], .for_ (.var 2) (.rng2 (.con (.int 1)) (.bin .add (.bi .len [.var 1]) (.con (.int 1)))) [.ifs (.cmp .gt (.bi .sum [.sl (.var 4) (.con .non) (.var 2)]) (.bi .sum [.comp [5] (.var 5) (.var 0) (.con (.bl true)) (.bi .min2 [.var 5, .var 2])])) [.append 3 (.tup [.con (.str "columns"), .var 2])] []], .ret (.var 3)]
def D__law_breaks : DefI := ⟨d__law_breaks, ["rows", "columns", "many", "found", "most", "number"], ["rows", "columns"], ⟨2, 6, b__law_breaks⟩⟩
def b__law_all_rows : List S := [.asg (.var 1) (.lst [.tup []]), .for_ (.var 2) (.rng (.var 0)) [.asg (.var 3) (.lst []), .for_ (.var 4) (.var 1) [.asg (.var 3) (.bin .add (.var 3) (.lst [.bin .add (.var 4) (.tup [.con (.int 0)]), .bin .add (.var 4) (.tup [.con (.int 1)])]))], .asg (.var 1) (.var 3)], .ret (.var 1)]
def D__law_all_rows : DefI := ⟨d__law_all_rows, ["width", "found", "turn", "longer", "row"], ["width"], ⟨1, 5, b__law_all_rows⟩⟩
def b__law_count : List S := [.asg (.var 2) (.dnew1 (.var 0) (.con (.int 1))), .for_ (.var 3) (.var 1) [.asg (.var 4) (.dnew), .for_ (.var 5) (.call 37 [.bi .len [.var 0]]) [.ifs (.cmp .eq (.bi .sum [.var 5]) (.var 3)) [.lock 2, .for_ (.var 6) (.dkeys 2) [.asg (.var 7) (.bi .tuple [.comp [8, 9] (.tup [.var 8, .var 9]) (.zip [.var 6, .var 5]) (.con (.bl true)) (.bin .sub (.var 8) (.var 9))]), .dput 4 (.var 7) (.bin .add (.dget (.var 4) (.var 7) (.con (.int 0))) (.dix (.var 2) (.var 6)))]] []], .move 2 4], .ret (.dget (.var 2) (.bin .mul (.tup [.con (.int 0)]) (.bi .len [.var 0])) (.con (.int 0)))]
def D__law_count : DefI := ⟨d__law_count, ["rows", "columns", "ways", "many", "later", "marks", "left", "there", "lack", "mark"], ["rows", "columns"], ⟨2, 10, b__law_count⟩⟩
def b__law_two : List S := [.asg (.var 3) (.call 27 [.var 0, .con (.int 3)]), .asg (.tup [.var 5, .var 6]) (.call 35 [.call 34 [.var 0, .var 1, .var 2]]), .ifs (.cmp .eq (.var 3) (.con (.int 1))) [.ret (.tup [.var 5, .var 6])] [], .asg (.var 4) (.bi .list [.var 6]), .par [7, 8] [.call 27 [.var 0, .bi .len [.var 4]], .call 27 [.var 0, .bi .len [.var 4]]], .ifs (.and (.cmp .eq (.var 3) (.con (.int 0))) (.and (.cmp .gt (.ix (.var 4) (.var 7)) (.con (.int 0))) (.cmp .lt (.ix (.var 4) (.var 8)) (.con (.int 12))))) [.asg (.tup [.ix (.var 4) (.var 7), .ix (.var 4) (.var 8)]) (.tup [.bin .sub (.ix (.var 4) (.var 7)) (.con (.int 1)), .bin .add (.ix (.var 4) (.var 8)) (.con (.int 1))])] [], .ifs (.cmp .eq (.var 3) (.con (.int 2))) [.asg (.var 4) (.comp [9] (.var 9) (.var 4) (.con (.bl true)) (.bi .min2 [.con (.int 12), .call 27 [.var 0, .bin .add (.bi .len [.var 5]) (.con (.int 2))]]))] [], .ret (.tup [.var 5, .bi .tuple [.var 4]])]
def D__law_two : DefI := ⟨d__law_two, ["cup", "most", "wide", "way", "found", "rows", "columns", "one", "other", "at"], ["cup", "most", "wide"], ⟨3, 10, b__law_two⟩⟩
def b__law_right : List S := [.asg (.var 3) (.call 36 [.var 1, .var 2]), .asg (.var 4) (.call 23 [.var 1, .var 2]), .ifs (.not (.call 30 [.lst [.call 21 [.var 1, .var 2], .cmp .is (.var 4) (.con .non), .cmp .isn (.call 22 [.var 1, .var 2]) (.con .non)], .bin .mul (.lst [.cmp .eq (.var 3) (.lst [])]) (.con (.int 3))])) [.ret (.con (.bl false))] [], .ifs (.and (.cmp .isn (.var 4) (.con .non)) (.cmp .notin (.var 4) (.var 3))) [.ret (.con (.bl false))] [], .asg (.var 5) (.bin .add (.sl (.var 3) (.con .non) (.con (.int 4))) (.lst [.tup [.con (.str "sum")], .tup [.con (.str "columns"), .con (.int 1)], .tup [.con (.str "columns"), .bi .len [.var 2]], .tup [.con (.str "columns"), .bin .add (.bi .len [.var 2]) (.con (.int 1))], .tup [.con (.str "columns"), .con (.int 0)], .tup [.con (.str "columns"), .con (.bl true)], .tup [.con (.str "columns")]])), .asg (.var 5) (.bin .add (.var 5) (.lst [.tup [.con (.str "columns"), .con (.int 1), .con (.int 1)], .tup [.con (.str "rows"), .con (.int 1)], .lst [.con (.str "sum")], .tup [.con (.str "sum"), .con (.int 1)], .con .non, .tup [], .con (.int 5), .con (.str "sum"), .tup [.con (.int 1), .con (.int 2)], .tup [.con .non], .call 33 [.var 0, .tup [.con (.str "columns"), .con (.int 1)]]])), .for_ (.var 6) (.var 5) [.asg (.var 7) (.and (.isi .tuple (.var 6)) (.and (.cmp .eq (.comp [8] (.var 8) (.sl (.var 6) (.con (.int 1)) (.con .non)) (.cmp .ne (.call 29 [.var 8]) (.con (.int 2))) (.var 8)) (.lst [])) (.cmp .isin (.var 6) (.var 3)))), .ifs (.not (.call 30 [.call 24 [.var 1, .var 2, .var 6], .var 7])) [.ret (.con (.bl false))] []], .ifs (.not (.call 30 [.call 21 [.var 2, .var 1], .cmp .eq (.var 3) (.lst [])])) [.ret (.con (.bl false))] [], .ifs (.or (.cmp .gt (.bi .max1 [.var 1]) (.bi .len [.var 2])) (.cmp .ne (.bi .sum [.var 1]) (.bi .sum [.var 2]))) [.ret (.cmp .ne (.var 3) (.lst []))] [], .ret (.cmp .eq (.call 10 [.var 2, .call 20 [.var 1, .bi .len [.var 2]]]) (.cmp .eq (.var 3) (.lst [])))]
def D__law_right : DefI := ⟨d__law_right, ["cup", "rows", "columns", "breaks", "told", "values", "value", "good", "own"], ["cup", "rows", "columns"], ⟨3, 9, b__law_right⟩⟩
def b_law : List S := [.cupS 1 (.call 26 [.var 0]), .asg (.var 2) (.lst [.call 21 [.tup [.con (.int 2), .con (.int 1)], .tup [.con (.int 2), .con (.int 1)]], .call 21 [.tup [.con (.int 2), .con (.int 1)], .tup [.con (.int 3), .con (.int 0)]], .call 23 [.tup [.con (.int 2), .con (.int 1)], .tup [.con (.int 3), .con (.int 0)]], .call 23 [.tup [.con (.int 1)], .tup [.con (.int 0)]], .call 23 [.tup [.con (.int 1)], .tup [.con (.int 1)]]]), .asg (.var 2) (.bin .add (.var 2) (.lst [.call 24 [.tup [.con (.int 2), .con (.int 1)], .tup [.con (.int 3), .con (.int 0)], .tup [.con (.str "columns"), .con (.int 2)]], .call 21 [.tup [.con (.int 2), .con (.int 1)], .tup [.con (.int 0), .con (.int 3)]], .call 24 [.tup [.con (.int 1)], .tup [.con (.int 1), .con (.int 1)], .tup [.con (.str "sum")]]])), .ifs (.not (.call 30 [.var 2, .lst [.con (.bl true), .con (.bl false), .tup [.con (.str "columns"), .con (.int 1)], .tup [.con (.str "sum")], .con .non, .con (.bl false), .con (.bl false), .con (.bl true)]])) [.ret (.con (.bl false))] [], .for_ (.tup [.var 6, .var 7]) (.tup [.tup [.con (.int 2), .con (.int 2)], .tup [.con (.int 3), .con (.int 4)], .tup [.con (.int 6), .con (.int 5)], .tup [.con (.int 12), .con (.int 12)]]) [.for_ (.var 8) (.rng (.con (.int 3))) [.asg (.tup [.var 3, .var 4]) (.call 39 [.var 1, .var 6, .var 7]), .ifs (.not (.call 40 [.var 1, .var 3, .var 4])) [.ret (.con (.bl false))] []]], .asg (.var 3) (.bi .tuple [.comp [8] (.var 8) (.rng (.bin .add (.con (.int 1)) (.call 27 [.var 1, .con (.int 4)]))) (.con (.bl true)) (.call 27 [.var 1, .con (.int 5)])]), .asg (.var 4) (.bi .tuple [.comp [8] (.var 8) (.rng (.bin .add (.con (.int 1)) (.call 27 [.var 1, .con (.int 4)]))) (.con (.bl true)) (.call 27 [.var 1, .con (.int 5)])]), .ifs (.not (.call 30 [.lst [.call 21 [.var 3, .var 4], .cmp .gt (.call 25 [.var 3, .var 4]) (.con (.int 0))], .bin .mul (.lst [.cmp .gt (.call 38 [.var 3, .var 4]) (.con (.int 0))]) (.con (.int 2))])) [.ret (.con (.bl false))] [], .asg (.var 5) (.call 34 [.var 1, .con (.int 8), .con (.int 8)]), .asg (.tup [.var 3, .var 4]) (.call 35 [.var 5]), .ret (.cmp .is (.call 21 [.var 3, .call 32 [.var 1, .var 4, .bin .add (.con (.int 1)) (.call 27 [.var 1, .con (.int 4)])]]) (.con (.bl true)))]
def D_law : DefI := ⟨d_law, ["script", "cup", "told", "rows", "columns", "table", "most", "wide", "turn"], ["script"], ⟨1, 9, b_law⟩⟩
def defs_0 : List DefI := [D_is_integer, D_is_whole, D_need_whole, D_is_tuple_of, D_fits_row, D_need_row, D_need_as_long, D_falling, D_fronts_in, D_is_as_even_in, D_is_as_even, D_fits_counts, D_need_counts, D_mark_counts_in, D_over_in, D_mark_breaks_in, D_marked_in, D_rows_with, D_tables_counted, D_need_two_counts]
def defs_1 : List DefI := [D_turned_over, D_can_be_marked, D_mark_table, D_mark_break, D_is_mark_break, D_count_mark_tables, D__law_cup, D__law_roll, D__law_some, D__law_sort, D__law_like, D__law_falling, D__law_evener, D__law_bent, D__law_marks, D__law_counts_of, D__law_breaks, D__law_all_rows, D__law_count, D__law_two]
def defs_2 : List DefI := [D__law_right, D_law]
def defs : List DefI := defs_0 ++ (defs_1 ++ (defs_2))
def gl_0 : List (Str × Gk) := [("is_integer", .fn 0 1), ("is_whole", .fn 1 3), ("need_whole", .fn 2 3), ("is_tuple_of", .fn 3 3), ("fits_row", .fn 4 1), ("need_row", .fn 5 1), ("need_as_long", .fn 6 2), ("falling", .fn 7 1), ("fronts_in", .fn 8 1), ("is_as_even_in", .fn 9 2), ("is_as_even", .fn 10 2), ("fits_counts", .fn 11 1), ("need_counts", .fn 12 2), ("mark_counts_in", .fn 13 1), ("over_in", .fn 14 2), ("mark_breaks_in", .fn 15 2), ("marked_in", .fn 16 2), ("rows_with", .fn 17 2), ("tables_counted", .fn 18 2), ("need_two_counts", .fn 19 3)]
def gl_1 : List (Str × Gk) := [("turned_over", .fn 20 2), ("can_be_marked", .fn 21 2), ("mark_table", .fn 22 2), ("mark_break", .fn 23 2), ("is_mark_break", .fn 24 3), ("count_mark_tables", .fn 25 2), ("_law_cup", .fn 26 1), ("_law_roll", .fn 27 2), ("_law_some", .fn 28 2), ("_law_sort", .fn 29 1), ("_law_like", .fn 30 2), ("_law_falling", .fn 31 1), ("_law_evener", .fn 32 3), ("_law_bent", .fn 33 2), ("_law_marks", .fn 34 3), ("_law_counts_of", .fn 35 1), ("_law_breaks", .fn 36 2), ("_law_all_rows", .fn 37 1), ("_law_count", .fn 38 2), ("_law_two", .fn 39 3)]
def gl_2 : List (Str × Gk) := [("_law_right", .fn 40 3), ("law", .fn 41 1), ("EvenError", .cls 0), ("InvalidRow", .cls 1), ("InvalidNumber", .cls 2), ("MOST_SIZE", .int (12)), ("FAR", .int (1000000)), ("FEW_LINES", .int (6)), ("SUM", .str "sum"), ("COLUMNS", .str "columns"), ("abs", .free), ("all", .free), ("bool", .free), ("enumerate", .free), ("int", .free), ("isinstance", .free), ("len", .free), ("list", .free), ("max", .free), ("min", .free)]
def gl_3 : List (Str × Gk) := [("range", .free), ("sorted", .free), ("str", .free), ("sum", .free), ("tuple", .free), ("zip", .free)]
def gl : List (Str × Gk) := gl_0 ++ (gl_1 ++ (gl_2 ++ (gl_3)))
def cn : List Str := ["EvenError", "InvalidRow", "InvalidNumber"]
def xs : List (Nat × Nat × Bool) := []
theorem bd_is_integer : D_is_integer.Bd := fun _ _ _ _ _ _ us hl => match us, hl with | [_], _ => rfl
theorem bd_is_whole : D_is_whole.Bd := fun _ _ _ _ _ _ us hl => match us, hl with | [_, _, _], _ => rfl
theorem bd_need_whole : D_need_whole.Bd := fun _ _ _ _ _ _ us hl => match us, hl with | [_, _, _], _ => rfl
theorem bd_is_tuple_of : D_is_tuple_of.Bd := fun _ _ _ _ _ _ us hl => match us, hl with | [_, _, _], _ => rfl
theorem bd_fits_row : D_fits_row.Bd := fun _ _ _ _ _ _ us hl => match us, hl with | [_], _ => rfl
theorem bd_need_row : D_need_row.Bd := fun _ _ _ _ _ _ us hl => match us, hl with | [_], _ => rfl
theorem bd_need_as_long : D_need_as_long.Bd := fun _ _ _ _ _ _ us hl => match us, hl with | [_, _], _ => rfl
theorem bd_falling : D_falling.Bd := fun _ _ _ _ _ _ us hl => match us, hl with | [_], _ => rfl
theorem bd_fronts_in : D_fronts_in.Bd := fun _ _ _ _ _ _ us hl => match us, hl with | [_], _ => rfl
theorem bd_is_as_even_in : D_is_as_even_in.Bd := fun _ _ _ _ _ _ us hl => match us, hl with | [_, _], _ => rfl
theorem bd_is_as_even : D_is_as_even.Bd := fun _ _ _ _ _ _ us hl => match us, hl with | [_, _], _ => rfl
theorem bd_fits_counts : D_fits_counts.Bd := fun _ _ _ _ _ _ us hl => match us, hl with | [_], _ => rfl
theorem bd_need_counts : D_need_counts.Bd := fun _ _ _ _ _ _ us hl => match us, hl with | [_, _], _ => rfl
theorem bd_mark_counts_in : D_mark_counts_in.Bd := fun _ _ _ _ _ _ us hl => match us, hl with | [_], _ => rfl
theorem bd_over_in : D_over_in.Bd := fun _ _ _ _ _ _ us hl => match us, hl with | [_, _], _ => rfl
theorem bd_mark_breaks_in : D_mark_breaks_in.Bd := fun _ _ _ _ _ _ us hl => match us, hl with | [_, _], _ => rfl
theorem bd_marked_in : D_marked_in.Bd := fun _ _ _ _ _ _ us hl => match us, hl with | [_, _], _ => rfl
theorem bd_rows_with : D_rows_with.Bd := fun _ _ _ _ _ _ us hl => match us, hl with | [_, _], _ => rfl
theorem bd_tables_counted : D_tables_counted.Bd := fun _ _ _ _ _ _ us hl => match us, hl with | [_, _], _ => rfl
theorem bd_need_two_counts : D_need_two_counts.Bd := fun _ _ _ _ _ _ us hl => match us, hl with | [_, _, _], _ => rfl
theorem bd_turned_over : D_turned_over.Bd := fun _ _ _ _ _ _ us hl => match us, hl with | [_, _], _ => rfl
theorem bd_can_be_marked : D_can_be_marked.Bd := fun _ _ _ _ _ _ us hl => match us, hl with | [_, _], _ => rfl
theorem bd_mark_table : D_mark_table.Bd := fun _ _ _ _ _ _ us hl => match us, hl with | [_, _], _ => rfl
theorem bd_mark_break : D_mark_break.Bd := fun _ _ _ _ _ _ us hl => match us, hl with | [_, _], _ => rfl
theorem bd_is_mark_break : D_is_mark_break.Bd := fun _ _ _ _ _ _ us hl => match us, hl with | [_, _, _], _ => rfl
theorem bd_count_mark_tables : D_count_mark_tables.Bd := fun _ _ _ _ _ _ us hl => match us, hl with | [_, _], _ => rfl
theorem bd__law_cup : D__law_cup.Bd := fun _ _ _ _ _ _ us hl => match us, hl with | [_], _ => rfl
theorem bd__law_roll : D__law_roll.Bd := fun _ _ _ _ _ _ us hl => match us, hl with | [_, _], _ => rfl
theorem bd__law_some : D__law_some.Bd := fun _ _ _ _ _ _ us hl => match us, hl with | [_, _], _ => rfl
theorem bd__law_sort : D__law_sort.Bd := fun _ _ _ _ _ _ us hl => match us, hl with | [_], _ => rfl
theorem bd__law_like : D__law_like.Bd := fun _ _ _ _ _ _ us hl => match us, hl with | [_, _], _ => rfl
theorem bd__law_falling : D__law_falling.Bd := fun _ _ _ _ _ _ us hl => match us, hl with | [_], _ => rfl
theorem bd__law_evener : D__law_evener.Bd := fun _ _ _ _ _ _ us hl => match us, hl with | [_, _, _], _ => rfl
theorem bd__law_bent : D__law_bent.Bd := fun _ _ _ _ _ _ us hl => match us, hl with | [_, _], _ => rfl
theorem bd__law_marks : D__law_marks.Bd := fun _ _ _ _ _ _ us hl => match us, hl with | [_, _, _], _ => rfl
theorem bd__law_counts_of : D__law_counts_of.Bd := fun _ _ _ _ _ _ us hl => match us, hl with | [_], _ => rfl
theorem bd__law_breaks : D__law_breaks.Bd := fun _ _ _ _ _ _ us hl => match us, hl with | [_, _], _ => rfl
theorem bd__law_all_rows : D__law_all_rows.Bd := fun _ _ _ _ _ _ us hl => match us, hl with | [_], _ => rfl
theorem bd__law_count : D__law_count.Bd := fun _ _ _ _ _ _ us hl => match us, hl with | [_, _], _ => rfl
theorem bd__law_two : D__law_two.Bd := fun _ _ _ _ _ _ us hl => match us, hl with | [_, _, _], _ => rfl
theorem bd__law_right : D__law_right.Bd := fun _ _ _ _ _ _ us hl => match us, hl with | [_, _, _], _ => rfl
theorem bd_law : D_law.Bd := fun _ _ _ _ _ _ us hl => match us, hl with | [_], _ => rfl
end Hd
namespace Hd
open PySem PySem.Spec PyProof.Rows L2 Ev
theorem top_true : topB fa defs cn gl xs = true := by decide +kernel
theorem bodies : (defs.all fun D => D.bodyB gl) = true := by decide +kernel
theorem bds : ∀ D ∈ defs, D.Bd := by
  intro D h
  unfold defs defs_0 defs_1 defs_2 at h
  simp only [List.cons_append, List.nil_append, List.mem_cons, List.not_mem_nil, or_false] at h
  rcases h with rfl | rfl | rfl | rfl | rfl | rfl | rfl | rfl | rfl | rfl | rfl | rfl | rfl | rfl | rfl | rfl | rfl | rfl | rfl | rfl | rfl | rfl | rfl | rfl | rfl | rfl | rfl | rfl | rfl | rfl | rfl | rfl | rfl | rfl | rfl | rfl | rfl | rfl | rfl | rfl | rfl | rfl
  · exact bd_is_integer
  · exact bd_is_whole
  · exact bd_need_whole
  · exact bd_is_tuple_of
  · exact bd_fits_row
  · exact bd_need_row
  · exact bd_need_as_long
  · exact bd_falling
  · exact bd_fronts_in
  · exact bd_is_as_even_in
  · exact bd_is_as_even
  · exact bd_fits_counts
  · exact bd_need_counts
  · exact bd_mark_counts_in
  · exact bd_over_in
  · exact bd_mark_breaks_in
  · exact bd_marked_in
  · exact bd_rows_with
  · exact bd_tables_counted
  · exact bd_need_two_counts
  · exact bd_turned_over
  · exact bd_can_be_marked
  · exact bd_mark_table
  · exact bd_mark_break
  · exact bd_is_mark_break
  · exact bd_count_mark_tables
  · exact bd__law_cup
  · exact bd__law_roll
  · exact bd__law_some
  · exact bd__law_sort
  · exact bd__law_like
  · exact bd__law_falling
  · exact bd__law_evener
  · exact bd__law_bent
  · exact bd__law_marks
  · exact bd__law_counts_of
  · exact bd__law_breaks
  · exact bd__law_all_rows
  · exact bd__law_count
  · exact bd__law_two
  · exact bd__law_right
  · exact bd_law
end Hd
namespace L2
open PySem PySem.Spec PyProof.Rows
theorem walk_ofEW {l : PySem.W.OpenLaw} {n k : Nat} {q : Program} {loose : List Str} {XP : (Str → Option Value) → Heap → Prop} {YP : World → Heap → Prop} {d : DefRec} {CX : World → CXT} {x : Str}
    (hn : l.most = some n) (hn2 : n ≤ sizeLine) (hdf : d.params.defaults = []) (hr : Room k callerA)
    (F : ∀ (w : World) (mg : Str → Option Value) (fa : Addr) (h : Heap), YP w h → h.Ns mainGlobals mg → mg d.name = some (.ref fa) →
      ∃ (K : PySem.W.Frag) (fd : FuncData) (sp : Sp), K.In h ∧ (∀ (s : Shared) (u : Value), BindsTo s fd ⟨[u], []⟩ [(x, u)]) ∧
        (∀ (H : Hp) (a : Addr) (ns : List Int), ns.length ≤ n → Only H → SqL K H a (ns.map V.int) → sp [.ref a] H (fun v _ => v = .bl true) fun _ _ _ => False) ∧
        ∀ base : Heap, K.In base → base.Ns mainGlobals mg → FnOk l.prog w K mg base (CX w) k fa fd [x] sp)
    (hCX : ∀ (w : World) (H : Hp) (s : Shared) (e : Value) (s' : Shared), CX w [] H s (fun _ _ _ => False) e s' → False) :
    PySem.W.WalkO q loose XP YP l.row.toRowW d [] (fun f vs => PySem.call f vs) := by
  refine Att.attach_call hn hdf fun w s₀ s₁ mg mb fa o pm cd doc a vs ns G Y ho hd hcd hmg hobj hints hlen hg => ?_
  obtain ⟨K, fd, sp, KX, hb, hsp, hF⟩ := F w mg fa _ Y G.T.g hmg
  exact law_call KX G.T.g G.T.b G.T.builtins G.T.nolimit hg hobj hints (Nat.le_trans hlen hn2) hr hF hb (fun H hO hS => hsp H a ns hlen hO hS) fun H e s' => hCX w H s₁ e s'
end L2

open PySem PySem.W PySem.Calls PyProof.Rows
theorem the_table : Ev.tbOf Hd.defs = Lw.tb := by
  funext i
  show (Hd.defs[i]?).map (·.df) = Lw.dfs[i]?
  rw [← List.getElem?_map]
  rfl
theorem PySem.Challenge.cw_moreeven_k76_whole_counts_that_can_be_ma_holds : PySem.Challenge.rw_moreeven_k76_whole_counts_that_can_be_ma.Holds := by
  w_on; o_law
  refine HandSHeadRun.head_any (r := OpenLaw.row PySem.Challenge.rw_moreeven_k76_whole_counts_that_can_be_ma) (q := view (OpenLaw.row PySem.Challenge.rw_moreeven_k76_whole_counts_that_can_be_ma).prog [53]) (H := Hd.hk) (ob := Hd.ob) (M := 3000) (loose := Hd.loose) (d := HandSHeadRun.topDef (OpenLaw.row PySem.Challenge.rw_moreeven_k76_whole_counts_that_can_be_ma).prog 53) (kwd := []) Hd.ob_eq
    (by kernel_rfl) (fun s => by kernel_rfl) Hd.run (by kernel_rfl) (by kernel_rfl) (by kernel_rfl) (by rfl) (by first | assumption | decide +kernel) (by decide +kernel) ⟨rfl, rfl, rfl, rfl, rfl, by decide +kernel⟩ ?hw ?hc
  case hw => w_witness2
  case hc =>
    refine L2.walk_ofEW (l := PySem.Challenge.rw_moreeven_k76_whole_counts_that_can_be_ma) (n := 63) (k := 13) (x := "script") (CX := L2.CX PySem.Challenge.rw_moreeven_k76_whole_counts_that_can_be_ma.prog) rfl (by decide) (by kernel_rfl) ⟨rfl, by decide, by decide⟩ ?F ?X
    case X => exact fun w H s e s' ⟨_, _, _, _, _, _, _, _, _, _, _, _, z⟩ => z
    intro w mg fa h Y G hmg0
    obtain ⟨K, KX, c⟩ := Y
    have hmg : mg ("law" : PySem.Str) = some (.ref fa) := by
      have e : (HandSHeadRun.topDef (OpenLaw.row PySem.Challenge.rw_moreeven_k76_whole_counts_that_can_be_ma).prog 53).name = ("law" : PySem.Str) := by kernel_rfl
      rw [← e]
      exact hmg0
    have hg := Ev.glo_of KX G c (x := "law") (by decide +kernel)
    have hfa : fa = He.ga K "law" := by
      have := hmg.symm.trans hg
      cases this
      rfl
    obtain ⟨fd, hb, hF⟩ := Ev.law_ok (P := PySem.Challenge.pw_moreeven_k76_whole_counts_that_can_be_ma) (w := w) (wn := 1000) (n := 12) (i := 41) (D := Hd.D_law) (x := "script") KX G (show He.SaysD Hd.fa (Hd.defs.map (·.d)) K from c) Hd.top_true Hd.bds (fun D h => List.all_eq_true.mp Hd.bodies D h) rfl rfl
    subst hfa
    refine ⟨K, fd, _, KX, hb, fun H a ns hl _ hS => ⟨a, ns, rfl, hS, ?_, fun _ => rfl⟩, fun base _ _ => hF base⟩
    rw [the_table]
    exact (Lw.law_all (P := Ev.parOf 1000 Hd.xs) (n := 4) ns hl)
