import PyProof.Rows.All
import Wide.All
import OpenK.AllK
import Wide.FinOn
import PyProof.P3Statements
import HandS.ForExc
import HandS.ForMost
import HandS.ExcOwn
import HandS.Words
import HandS.WordsExc
import HandS.Defaults
import HandS.SortInts
import HandS.SortOrd
import HandS.Zip
import HandS.IsInst
import HandS.Strs
import HandS.Conv
import HandS.Deep
import HandS.Flow
import HandS.TryMany
import HandS.TupAny
import HandS.CallSlots
import HandS.Style
import HandS.TupLe
import HandS.SetFor
import HandS.TupSets
import HandS.HeadEnd
import HandS.HeadHook1
import HandS.HeadHook2
import KE.KStateDown
import HandS.Head0
import HandS.Head1
import HandS.Head2
import HandS.More
import HandS.Codes
import HandS.Text
import PyProof.Rows.BitMore
import HandS.ExcInit
import HandS.ExcField
import KE.KExcSuper
import KE.DataMinMax
import KE.GoesEnum
import PySem.Challenge.RW_joinkinds_k81_whole_points_alone_and_tog
section
set_option linter.all false
/-! JkEv: an own small language (the fragment that the joinkinds texts use), its evaluator over tree values (PyData).
Lists are values; a local name that is changed in place holds an owned list (Sl.ow). -/
namespace JK
open PySem
abbrev D := PyData

/-- a slot: not assigned; a value that nobody changes; a list (or dict) of one's own -/
inductive Sl where
  | un | sh (d : D) | ow (d : D) | xn (c : String) (d : D)
abbrev Ev := List Sl

inductive R (α : Type) where
  | ok (a : α) (ρ : Ev) | ex (c : String) (d : D) (ρ : Ev) | er (m : String)
def R.bd {α β : Type} (r : R α) (f : α → Ev → R β) : R β := match r with
  | .ok a ρ => f a ρ
  | .ex c d ρ => .ex c d ρ
  | .er m => .er m

/-- a call's end: the value (or what is raised), and the lists of the caller's own that it was handed -/
inductive Rc where
  | ok (d : D) (ios : List D) | ex (c : String) (d : D) (ios : List D) | er (m : String)

inductive Op | add | sub | mul | fdiv | mod | shl | shr | band | bor | bxor deriving DecidableEq
inductive Cp | eq | ne | lt | le | gt | ge | isIn | notIn | is_ | isNot deriving DecidableEq
/-- builtins by value -/
inductive Bi | len | abs | int | sum | any | all | max | min | sorted | tuple | list | sset | lset | lrng | trng | str deriving DecidableEq
/-- methods by value -/
inductive Me | index | count | get | split | join | partition deriving DecidableEq
/-- what a for walks -/
inductive Ik | seq | rng | enm | zip | items | vals deriving DecidableEq
inductive Tg | nm (i : Nat) | tp (is : List Nat)

inductive E where
  | var (i : Nat) | bor (i : Nat)
  | non | bl (b : Bool) | int (i : Int) | str (s : Str) | glo (x : String)
  | op (o : Op) (a b : E) | neg (a : E) | inv (a : E) | not (a : E) | and (a b : E) | or (a b : E)
  | cmp (o : Cp) (a b : E) | chain (o o' : Cp) (a b c : E)
  | ite (c a b : E)
  | call (f : String) (es : List E)
  | bi (b : Bi) (es : List E) | isi (t : String) (a : E)
  | tup (es : List E) | lst (es : List E) | dis (ks vs : List E)
  | sub (a b : E) | slc (a : E) (lo hi : List E) | rev (a : E)
  | pop (i : Nat) (es : List E) | me (m : Me) (a : E) (es : List E) | xf (i : Nat) (f : String)
  | comp (elt : E) (tg : Tg) (k : Ik) (es : List E) (cs : List E) (vs : List Nat)
  | comp2 (elt : E) (tg : Tg) (k : Ik) (es : List E) (cs : List E) (tg1 : Tg) (k1 : Ik) (es1 : List E) (cs1 : List E) (vs vs1 : List Nat)
  | dcomp (ek ev : E) (tg : Tg) (k : Ik) (es : List E) (cs : List E) (vs : List Nat)

inductive S where
  | expr (e : E) | app (i : Nat) (e : E) | ext (i : Nat) (e : E)
  | asg (i : Nat) (e : E) | own (i : Nat) (e : E) | asgT (is : List Nat) (e : E) | par (is : List (Nat × Bool)) (es : List E)
  | seti (i : Nat) (a b : E) | aug (i : Nat) (o : Op) (e : E) | augs (i : Nat) (a : E) (o : Op) (e : E)
  | ret (e : E) | ret0 | ifs (c : E) (a b : List S) | whl (c : E) (b : List S) | for_ (tg : Tg) (k : Ik) (es : List E) (b : List S)
  | raise (c : String) (es : List E) | tri (b : List S) (hs : List (String × Option Nat × List S)) | cnt | pas

inductive Out where
  | nx (ρ : Ev) | rt (d : D) (ρ : Ev) | ct (ρ : Ev) | ex (c : String) (d : D) (ρ : Ev) | er (m : String)

/-- a def: its parameters, its slots, which parameters are lists of the caller's own, whether its result is a new list, its body -/
structure Df where
  np : Nat
  ns : Nat
  io : List Nat
  ff : Bool
  body : List S

/-! ### values -/
mutual
def flat : D → Bool
  | .none => true | .bool _ => true | .int _ => true | .str _ => true
  | .tuple xs => flats xs
  | .list _ => false | .dict _ => false
def flats : List D → Bool
  | [] => true
  | x :: xs => flat x && flats xs
end
def isLst : D → Bool
  | .list _ => true
  | _ => false
def intsD : List D → Option (List Int)
  | [] => some []
  | .int i :: r => (intsD r).map (i :: ·)
  | _ => none
def boolsD : List D → Option (List Bool)
  | [] => some []
  | .bool i :: r => (boolsD r).map (i :: ·)
  | _ => none
def seqOf : D → Option (List D)
  | .list xs => some xs
  | .tuple xs => some xs
  | _ => none
def truthy : D → Option Bool
  | .none => some false
  | .bool b => some b
  | .int i => some (i != 0)
  | .str s => if decide (s.length < 1000000) then some ((s.length : Int) != 0) else none
  | .list xs => some (!xs.isEmpty)
  | .tuple xs => some (!xs.isEmpty)
  | .dict _ => none
/-- the place that an index names -/
def ixN (n : Nat) (i : Int) : Option Nat := if 0 ≤ i then (if i < n then some i.toNat else none) else if -(n : Int) ≤ i then some (i + n).toNat else none
def atI (xs : List D) (i : Int) : Option D := (ixN xs.length i).bind fun j => xs[j]?
def sIx (n d : Nat) : Option Int → Nat
  | none => d
  | some v => if v < 0 then (v + (n : Int)).toNat else min v.toNat n
def cut {α : Type} (xs : List α) (lo hi : Option Int) : List α := (xs.drop (sIx xs.length 0 lo)).take (sIx xs.length xs.length hi - sIx xs.length 0 lo)
/-- the longest list that is made -/
def lim : Nat := 1000000
def lenOk {α : Type} (xs : List α) : Bool := decide (xs.length < lim)
def smallI (i : Int) : Bool := decide (-(2 ^ 64) < i) && decide (i < 2 ^ 64)
/-- flat items: what `in` compares -/
def flatD : D → Bool
  | .none => true | .bool _ => true | .int _ => true | .str _ => true
  | _ => false

def opD : Op → D → D → Except String D
  | .add, .int i, .int j => .ok (.int (i + j))
  | .add, .list xs, .list ys => if lenOk (xs ++ ys) then .ok (.list (xs ++ ys)) else .error "add long"
  | .add, .tuple xs, .tuple ys => if lenOk (xs ++ ys) then .ok (.tuple (xs ++ ys)) else .error "add long"
  | .add, .str x, .str y => if decide (x.length + y.length < lim) then .ok (.str (x ++ y)) else .error "add long"
  | .sub, .int i, .int j => .ok (.int (i - j))
  | .mul, .int i, .int j => if smallI i || smallI j then .ok (.int (i * j)) else .error "mul large"
  | .mul, .list xs, .int k => if (decide (0 ≤ k) && decide (k < 1000000)) && decide (xs.length * k.toNat < lim) then .ok (.list (List.replicate k.toNat xs).flatten) else .error "rep"
  | .fdiv, .int i, .int j => if decide (0 < j) && decide (j < 1073741824) then .ok (.int (i / j)) else .error "fdiv"
  | .mod, .int i, .int j => if decide (0 < j) then .ok (.int (i % j)) else .error "mod"
  | .shl, .int i, .int j => if decide (0 ≤ j) && decide (j ≤ 1000000) && decide (i.natAbs < 2 ^ 64) then .ok (.int (i * 2 ^ j.toNat)) else .error "shl"
  | .shr, .int i, .int j => if decide (0 ≤ j) then .ok (.int (i / 2 ^ j.toNat)) else .error "shr"
  | .band, .int i, .int j => .ok (.int (Builtin.bitAnd i j))
  | .bor, .int i, .int j => .ok (.int (Builtin.bitOr i j))
  | .bxor, .int i, .int j => .ok (.int (Builtin.bitXor i j))
  | _, _, _ => .error "op kinds"
mutual
/-- no dict within, not too deep -/
def shap : Nat → D → Bool
  | _, .none => true | _, .bool _ => true | _, .int _ => true | _, .str s => PyData.strOk s
  | n, .tuple xs => (match n with | 0 => false | n + 1 => shaps n xs)
  | n, .list xs => (match n with | 0 => false | n + 1 => shaps n xs)
  | _, .dict _ => false
def shaps : Nat → List D → Bool
  | _, [] => true
  | n, x :: xs => shap n x && shaps n xs
end
def inD (x : D) (y : D) : Except String Bool := match y with
  | .list ys => if shap 30 x && shaps 30 ys then .ok (ys.any fun z => PyData.eqv z x) else .error "in shape"
  | .tuple ys => if flatD x && ys.all flatD then .ok (ys.any fun z => PyData.eqv z x) else .error "in tuple"
  | .dict kvs => if shap 30 x then .ok (kvs.any fun kv => PyData.eqv kv.1 x) else .error "in dict"
  | _ => .error "in kinds"
def ltI (o : Cp) (i j : Int) : Bool := match o with
  | .lt => decide (i < j) | .le => decide (i ≤ j) | .gt => decide (j < i) | .ge => decide (j ≤ i) | _ => false
def isNoneD : D → Bool
  | .none => true
  | _ => false
def cmpD : Cp → D → D → Except String Bool
  | .eq, a, b => if shap 30 a && shap 30 b then .ok (PyData.eqv a b) else .error "eq shape"
  | .ne, a, b => if shap 30 a && shap 30 b then .ok (!PyData.eqv a b) else .error "ne shape"
  | .isIn, a, b => inD a b
  | .notIn, a, b => (inD a b).map (!·)
  | .is_, a, .none => .ok (isNoneD a)
  | .isNot, a, .none => .ok (!isNoneD a)
  | .is_, .bool a, .bool b => .ok (a == b)
  | .isNot, .bool a, .bool b => .ok (!(a == b))
  | .lt, .int i, .int j => .ok (ltI .lt i j)
  | .le, .int i, .int j => .ok (ltI .le i j)
  | .gt, .int i, .int j => .ok (ltI .gt i j)
  | .ge, .int i, .int j => .ok (ltI .ge i j)
  | _, _, _ => .error "cmp kinds"
/-- insertion into a sorted list of intsD -/
def insI (i : Int) : List Int → List Int
  | [] => [i]
  | j :: r => if i ≤ j then i :: j :: r else j :: insI i r
def sortI : List Int → List Int
  | [] => []
  | i :: r => insI i (sortI r)
def nubI : List Int → List Int
  | [] => []
  | i :: r => if r.contains i then nubI r else i :: nubI r
/-- order of tuples of intsD -/
def leL : List Int → List Int → Bool
  | [], _ => true
  | _ :: _, [] => false
  | x :: xs, y :: ys => if x = y then leL xs ys else decide (x < y)
def insL (i : List Int) : List (List Int) → List (List Int)
  | [] => [i]
  | j :: r => if leL i j then i :: j :: r else j :: insL i r
def sortL : List (List Int) → List (List Int)
  | [] => []
  | i :: r => insL i (sortL r)
def tupI : D → Option (List Int)
  | .tuple xs => intsD xs
  | _ => none
def tupsI : List D → Option (List (List Int))
  | [] => some []
  | d :: r => (tupI d).bind fun x => (tupsI r).map (x :: ·)
def rngL (a b : Int) : List D := (List.range (b - a).toNat).map fun k => .int (a + (k : Nat))
def rngOk (a b : Int) : Bool := decide (-1000000 ≤ a) && decide (a ≤ 1000000) && decide (-1000000 ≤ b) && decide (b ≤ 1000000)
def maxI : List Int → Int
  | [] => 0
  | [i] => i
  | i :: r => max i (maxI r)
def minI : List Int → Int
  | [] => 0
  | [i] => i
  | i :: r => min i (minI r)
/-- sets of which kinds: intsD -/
def biD : Bi → List D → Except String D
  | .len, [.list xs] => .ok (.int xs.length)
  | .len, [.tuple xs] => .ok (.int xs.length)
  | .len, [.str s] => if decide (s.length < lim) then .ok (.int s.length) else .error "len long"
  | .len, [.dict xs] => .ok (.int xs.length)
  | .abs, [.int i] => .ok (.int (if i < 0 then -i else i))
  | .int, [.int i] => .ok (.int i)
  | .int, [.bool b] => .ok (.int (if b then 1 else 0))
  | .sum, [.list xs] => match intsD xs with | some ns => .ok (.int ns.sum) | none => .error "sum"
  | .any, [.list xs] => match boolsD xs with | some bs => .ok (.bool (bs.any id)) | none => .error "any"
  | .all, [.list xs] => match boolsD xs with | some bs => .ok (.bool (bs.all id)) | none => .error "all"
  | .max, [.list xs] => match intsD xs with | some (i :: r) => .ok (.int (maxI (i :: r))) | _ => .error "max"
  | .min, [.list xs] => match intsD xs with | some (i :: r) => .ok (.int (minI (i :: r))) | _ => .error "min"
  | .max, [.tuple xs] => match intsD xs with | some (i :: r) => .ok (.int (maxI (i :: r))) | _ => .error "max"
  | .min, [.tuple xs] => match intsD xs with | some (i :: r) => .ok (.int (minI (i :: r))) | _ => .error "min"
  | .max, [.int i, .int j] => .ok (.int (if j > i then j else i))
  | .min, [.int i, .int j] => .ok (.int (if j < i then j else i))
  | .sorted, [.list xs] => match intsD xs with
    | some ns => .ok (.list ((sortI ns).map .int))
    | none => .error "sorted list"
  | .tuple, [.list xs] => .ok (.tuple xs)
  | .tuple, [.tuple xs] => .ok (.tuple xs)
  | .list, [.list xs] => .ok (.list xs)
  | .list, [.tuple xs] => .ok (.list xs)
  | .list, [.dict kvs] => .ok (.list (kvs.map (·.1)))
  | .sset, [.list xs] => match intsD xs with
    | some ns => if decide (ns.length < 1000) && decide ((nubI ns).length < 64) then .ok (.list ((sortI (nubI ns)).map .int)) else .error "sorted set large"
    | none => .error "sorted set"
  | .sset, [.tuple xs] => match intsD xs with
    | some ns => if decide (ns.length < 1000) && decide ((nubI ns).length < 64) then .ok (.list ((sortI (nubI ns)).map .int)) else .error "sorted set large"
    | none => .error "sorted set"
  | .lset, [.list xs] => match intsD xs with
    | some ns => if decide (ns.length < 1000) then .ok (.int (nubI ns).length) else .error "set large"
    | none => .error "len set"
  | .lset, [.tuple xs] => match intsD xs with
    | some ns => if decide (ns.length < 1000) then .ok (.int (nubI ns).length) else .error "set large"
    | none => .error "len set tuple"
  | .lrng, [.int b] => if rngOk 0 b then .ok (.list (rngL 0 b)) else .error "range"
  | .lrng, [.int a, .int b] => if rngOk a b then .ok (.list (rngL a b)) else .error "range"
  | .trng, [.int b] => if rngOk 0 b then .ok (.tuple (rngL 0 b)) else .error "range"
  | .trng, [.int a, .int b] => if rngOk a b then .ok (.tuple (rngL a b)) else .error "range"
  | _, _ => .error "builtin kinds"
def isiD (t : String) : D → Except String Bool
  | .none => .ok false
  | .bool _ => .ok (t == "bool" || t == "int")
  | .int _ => .ok (t == "int")
  | .str _ => .ok (t == "str")
  | .tuple _ => .ok (t == "tuple")
  | .list _ => .ok (t == "list")
  | .dict _ => .ok (t == "dict")
def findIx (x : D) : List D → Nat → Option Nat
  | [], _ => none
  | y :: r, n => if PyData.eqv y x then some n else findIx x r (n + 1)
def dget (x : D) : List (D × D) → Option D
  | [] => none
  | kv :: r => if PyData.eqv kv.1 x then some kv.2 else dget x r
def dput (x v : D) : List (D × D) → List (D × D)
  | [] => [(x, v)]
  | kv :: r => if PyData.eqv kv.1 x then (kv.1, v) :: r else kv :: dput x v r
def subD : D → D → Except String D
  | .list xs, .int i => match atI xs i with | some d => .ok d | none => .error "index"
  | .tuple xs, .int i => match atI xs i with | some d => .ok d | none => .error "index"
  | .dict kvs, k => match dget k kvs with | some d => .ok d | none => .error "key"
  | _, _ => .error "sub kinds"
def slcD (a : D) (lo hi : Option Int) : Except String D := match a with
  | .list xs => .ok (.list (cut xs lo hi))
  | .tuple xs => .ok (.tuple (cut xs lo hi))
  | _ => .error "slice kinds"
def meD : Me → D → List D → Except String D
  | .index, .list xs, [x] => if flatD x && xs.all flatD then (match findIx x xs 0 with | some j => .ok (.int j) | none => .error "no index") else .error "index shape"
  | .count, .list xs, [.int k] => (match intsD xs with | some ns => .ok (.int (ns.count k : Nat)) | none => .error "count")
  | .get, .dict kvs, [k] => .ok ((dget k kvs).getD .none)
  | .get, .dict kvs, [k, v] => .ok ((dget k kvs).getD v)
  | _, _, _ => .error "method kinds"
/-- the items that a for walks -/
def itemsD : Ik → List D → Except String (List D)
  | .seq, [.list xs] => .ok xs
  | .seq, [.tuple xs] => .ok xs
  | .rng, [.int b] => if rngOk 0 b then .ok (rngL 0 b) else .error "range"
  | .rng, [.int a, .int b] => if rngOk a b then .ok (rngL a b) else .error "range"
  | .enm, [.list xs] => .ok (xs.zipIdx.map fun p => .tuple [.int p.2, p.1])
  | .enm, [.tuple xs] => .ok (xs.zipIdx.map fun p => .tuple [.int p.2, p.1])
  | .zip, [.list xs, .list ys] => .ok ((xs.zip ys).map fun p => .tuple [p.1, p.2])
  | .zip, [.tuple xs, .tuple ys] => .ok ((xs.zip ys).map fun p => .tuple [p.1, p.2])
  | .items, [.dict kvs] => .ok (kvs.map fun kv => .tuple [kv.1, kv.2])
  | .vals, [.dict kvs] => .ok (kvs.map (·.2))
  | _, _ => .error "items kinds"

/-! ### slots -/
def slotD : Sl → Option D
  | .sh d => some d
  | .ow d => some d
  | _ => none
def getS (ρ : Ev) (i : Nat) : Option D := match ρ[i]? with
  | some s => slotD s
  | none => none
def isOw (ρ : Ev) (i : Nat) : Bool := match ρ[i]? with
  | some (.ow _) => true
  | _ => false
/-- read where the value escapes: an owned list is owned no more -/
def readV (ρ : Ev) (i : Nat) : R D := match ρ[i]? with
  | some (.sh d) => .ok d ρ
  | some (.ow d) => .ok d (ρ.set i (.sh d))
  | _ => .er s!"slot {i}"
def wipeS (ρ : Ev) : List Nat → Ev
  | [] => ρ
  | v :: vs => (wipeS ρ vs).set v .un
def backS (ρ0 ρ : Ev) : List Nat → Ev
  | [] => ρ
  | v :: vs => (backS ρ0 ρ vs).set v (ρ0.getD v .un)
def setAll (ρ : Ev) : List Nat → List D → Option Ev
  | [], [] => some ρ
  | i :: is, d :: ds => setAll (ρ.set i (.sh d)) is ds
  | _, _ => none
def bindT (tg : Tg) (d : D) (ρ : Ev) : Option Ev := match tg with
  | .nm i => some (ρ.set i (.sh d))
  | .tp is => match d with
    | .tuple ds => setAll ρ is ds
    | _ => none

inductive Arg where
  | val (d : D) | bor (i : Nat)
def rs (ρ : Ev) : Arg → Option D
  | .val d => some d
  | .bor i => getS ρ i
def rsAll (ρ : Ev) : List Arg → Option (List D)
  | [] => some []
  | a :: r => (rs ρ a).bind fun d => (rsAll ρ r).map (d :: ·)
/-- a list -/
def isLA (d : Option D) : Bool := match d with
  | some (.list _) => true
  | _ => false
def isVal : Arg → Bool
  | .val _ => true
  | .bor _ => false
def lift {α : Type} (x : Except String α) (ρ : Ev) : R α := match x with
  | .ok a => .ok a ρ
  | .error m => .er m
/-- resolved arguments -/
def withA {α : Type} (as : List Arg) (ρ : Ev) (f : List D → R α) : R α := match rsAll ρ as with
  | some ds => f ds
  | none => .er "unresolved"
mutual
def eqvB : D → D → Bool
  | .none, .none => true
  | .bool a, .bool b => a == b
  | .int i, .int j => i == j
  | .str x, .str y => x == y
  | .list xs, .list ys => eqvBs xs ys
  | .tuple xs, .tuple ys => eqvBs xs ys
  | _, _ => false
def eqvBs : List D → List D → Bool
  | [], [] => true
  | x :: xs, y :: ys => eqvB x y && eqvBs xs ys
  | _, _ => false
end
/-- the same list still -/
def sameD (a b : Option (List D)) : Bool := match a, b with
  | some a, some b => eqvBs a b
  | _, _ => false

/-! ### comprehensions -/
/-- a walked list's name is among these -/
def borIn (vs : List Nat) (as : List Arg) : Bool := as.any fun a => match a with
  | .bor i => vs.contains i
  | .val _ => false
def compL {α : Type} (tg : Tg) (vs : List Nat) (cond : Ev → R Bool) (elt : Ev → R α) (still : Ev → Bool) : List D → Ev → R (List α)
  | [], ρ => .ok [] ρ
  | d :: r, ρ => match bindT tg d ρ with
    | none => .er "bind"
    | some ρ1 => (cond ρ1).bd fun b ρ2 =>
      if b then (elt ρ2).bd fun x ρ3 => if still ρ3 then (compL tg vs cond elt still r (wipeS ρ3 vs)).bd fun xs ρ4 => .ok (x :: xs) ρ4 else .er "turned"
      else if still ρ2 then compL tg vs cond elt still r (wipeS ρ2 vs) else .er "turned"
def noEx {α : Type} : R α → R α
  | .ex _ _ _ => .er "raised in a comprehension"
  | r => r

/-! ### the evaluator -/
structure Cfg where
  F : String → List D → Rc
  G : String → Option D
  io : String → List Nat
  ff : String → Bool
/-- behind a call of a plain def -/
def afterC (bor : Bool) (r : Rc) (ρ : Ev) : R D := match r with
  | .ok d _ => if !bor || flat d then .ok d ρ else .er "a borrowed list may come back"
  | .ex c d _ => .ex c d ρ
  | .er m => .er m
/-- the slots of the lists of one's own that are handed on -/
def slotsIo (as : List Arg) (ρ : Ev) : List Nat → Option (List Nat)
  | [] => some []
  | i :: r => match as[i]? with
    | some (.bor s) => if isOw ρ s then (slotsIo as ρ r).map (s :: ·) else none
    | _ => none
def setOws (ρ : Ev) : List Nat → List D → Option Ev
  | [], [] => some ρ
  | s :: ss, d :: ds => if isLst d then setOws (ρ.set s (.ow d)) ss ds else none
  | _, _ => none
def onlyIo (as : List Arg) (io : List Nat) : Bool := as.zipIdx.all fun p => isVal p.1 || io.contains p.2
def afterM (ss : List Nat) (r : Rc) (ρ : Ev) : R D := match r with
  | .ok d ios => match setOws ρ ss ios with
    | some ρ' => .ok d ρ'
    | none => .er "handed lists"
  | .ex c d ios => match setOws ρ ss ios with
    | some ρ' => .ex c d ρ'
    | none => .er "handed lists"
  | .er m => .er m
def nodupB : List Nat → Bool
  | [] => true
  | i :: r => !r.contains i && nodupB r
def callR' (as : List Arg) (io : List Nat) (r : Rc) (ρ : Ev) : R D := match io with
  | [] => afterC (!as.all isVal) r ρ
  | i :: io => match slotsIo as ρ (i :: io) with
    | some ss => if nodupB ss && onlyIo as (i :: io) then afterM ss r ρ else .er "handed lists"
    | none => .er "handed lists"
def popAt (xs : List D) (k : Nat) (i : Nat) (ρ : Ev) : R D := match xs[k]? with
  | some d => .ok d (ρ.set i (.ow (.list (xs.eraseIdx k))))
  | none => .er "pop"
/-- a slice's part -/
def optI : List D → Option (Option Int)
  | [] => some none
  | [.int i] => some (some i)
  | _ => none
section
variable (C : Cfg)
mutual
def evE : E → Ev → R D
  | .var i, ρ => readV ρ i
  | .bor _, _ => .er "borrowed"
  | .non, ρ => .ok .none ρ
  | .bl b, ρ => .ok (.bool b) ρ
  | .int i, ρ => .ok (.int i) ρ
  | .str s, ρ => .ok (.str s) ρ
  | .glo x, ρ => match C.G x with
    | some d => .ok d ρ
    | none => .er "no global"
  | .op o a b, ρ => (evA a ρ).bd fun x ρ1 => (evA b ρ1).bd fun y ρ2 => withA [x, y] ρ2 fun ds => match ds with
    | [d, e] => lift (opD o d e) ρ2
    | _ => .er "op"
  | .neg a, ρ => (evE a ρ).bd fun d ρ1 => match d with
    | .int i => .ok (.int (-i)) ρ1
    | _ => .er "neg"
  | .inv a, ρ => (evE a ρ).bd fun d ρ1 => match d with
    | .int i => .ok (.int (Builtin.bitNot i)) ρ1
    | _ => .er "inv"
  | .not a, ρ => (evA a ρ).bd fun x ρ1 => withA [x] ρ1 fun ds => match ds with
    | [d] => match truthy d with
      | some b => .ok (.bool (!b)) ρ1
      | none => .er "truth"
    | _ => .er "not"
  | .and a b, ρ => (evE a ρ).bd fun d ρ1 => match truthy d with
    | some true => evE b ρ1
    | some false => .ok d ρ1
    | none => .er "truth"
  | .or a b, ρ => (evE a ρ).bd fun d ρ1 => match truthy d with
    | some true => .ok d ρ1
    | some false => evE b ρ1
    | none => .er "truth"
  | .cmp o a b, ρ => (evA a ρ).bd fun x ρ1 => (evA b ρ1).bd fun y ρ2 => withA [x, y] ρ2 fun ds => match ds with
    | [d, e] => (lift (cmpD o d e) ρ2).bd fun b ρ3 => .ok (.bool b) ρ3
    | _ => .er "cmp"
  | .chain o o' a b c, ρ => (evE a ρ).bd fun x ρ1 => (evE b ρ1).bd fun y ρ2 => (lift (cmpD o x y) ρ2).bd fun k ρ3 =>
    if k then (evE c ρ3).bd fun z ρ4 => (lift (cmpD o' y z) ρ4).bd fun k' ρ5 => .ok (.bool k') ρ5 else .ok (.bool false) ρ3
  | .ite c a b, ρ => (evT c ρ).bd fun k ρ1 => if k then evE a ρ1 else evE b ρ1
  | .call f es, ρ => (evAs es ρ).bd fun as ρ1 => withA as ρ1 fun ds => callR' as (C.io f) (C.F f ds) ρ1
  | .bi b es, ρ => (evAs es ρ).bd fun as ρ1 => withA as ρ1 fun ds => lift (biD b ds) ρ1
  | .isi t a, ρ => (evA a ρ).bd fun x ρ1 => withA [x] ρ1 fun ds => match ds with
    | [d] => (lift (isiD t d) ρ1).bd fun b ρ2 => .ok (.bool b) ρ2
    | _ => .er "isinstance"
  | .tup es, ρ => (evEs es ρ).bd fun ds ρ1 => .ok (.tuple ds) ρ1
  | .lst es, ρ => (evEs es ρ).bd fun ds ρ1 => .ok (.list ds) ρ1
  | .dis ks vs, ρ => match ks with
    | [] => .ok (.dict []) ρ
    | _ => .er "dict display"
  | .sub a b, ρ => (evA a ρ).bd fun x ρ1 => (evA b ρ1).bd fun y ρ2 => withA [x, y] ρ2 fun ds => match ds with
    | [d, e] => lift (subD d e) ρ2
    | _ => .er "sub"
  | .slc a lo hi, ρ => (evA a ρ).bd fun x ρ1 => (evEs lo ρ1).bd fun l ρ2 => match optI l with
    | none => .er "slice"
    | some lv => (evEs hi ρ2).bd fun h ρ3 => match optI h with
      | none => .er "slice"
      | some hv => withA [x] ρ3 fun ds => match ds with
        | [d] => lift (slcD d lv hv) ρ3
        | _ => .er "slice"
  | .rev a, ρ => (evA a ρ).bd fun x ρ1 => withA [x] ρ1 fun ds => match ds with
    | [.list xs] => .ok (.list xs.reverse) ρ1
    | _ => .er "reverse"
  | .pop i es, ρ => if !isOw ρ i then .er "pop: not owned" else (evEs es ρ).bd fun ds ρ1 => match ρ1[i]? with
    | some (.ow (.list xs)) => (match ds with
      | [] => popAt xs (xs.length - 1) i ρ1
      | [.int k] => (match ixN xs.length k with
        | some j => popAt xs j i ρ1
        | none => .er "pop index")
      | _ => .er "pop")
    | _ => .er "pop: not owned"
  | .me m a es, ρ => (evA a ρ).bd fun x ρ1 => if isLA (rs ρ1 x) then (evAs es ρ1).bd fun as ρ2 => withA (x :: as) ρ2 fun ds => match ds with
    | d :: ds => lift (meD m d ds) ρ2
    | _ => .er "method"
    else .er "method of no list"
  | .xf i f, ρ => match ρ[i]? with
    | some (.xn _ (.str s)) => .ok (.str s) ρ
    | _ => .er "no exception"
  | .comp elt tg k es cs vs, ρ => (evAs es ρ).bd fun as ρ1 => withA as ρ1 fun ds => (lift (itemsD k ds) ρ1).bd fun items _ =>
    if vs.any (isOw ρ1) || borIn vs as then .er "an owned name in a comprehension" else
    noEx ((compL tg vs (evC cs) (evE elt) (fun ρ' => sameD (rsAll ρ' as) (some ds)) items (wipeS ρ1 vs)).bd fun xs ρ2 => .ok (.list xs) (backS ρ1 ρ2 vs))
  | .comp2 elt tg k es cs tg1 k1 es1 cs1 vs vs1, ρ => (evAs es ρ).bd fun as ρ1 => withA as ρ1 fun ds => (lift (itemsD k ds) ρ1).bd fun items _ =>
    if vs.any (isOw ρ1) || borIn vs as then .er "an owned name in a comprehension" else
    noEx ((compL tg vs (evC cs) (fun ρ' => (evAs es1 ρ').bd fun as1 ρ2 => withA as1 ρ2 fun ds1 => (lift (itemsD k1 ds1) ρ2).bd fun items1 _ =>
        if borIn vs1 as1 then .er "the walked name is stored anew" else compL tg1 vs1 (evC cs1) (evE elt) (fun ρ'' => sameD (rsAll ρ'' as1) (some ds1)) items1 (wipeS ρ2 vs1))
      (fun ρ' => sameD (rsAll ρ' as) (some ds)) items (wipeS ρ1 vs)).bd fun xs ρ2 => if lenOk xs.flatten then .ok (.list xs.flatten) (backS ρ1 ρ2 vs) else .er "comp2 long")
  | .dcomp ek ev tg k es cs vs, ρ => (evAs es ρ).bd fun as ρ1 => withA as ρ1 fun ds => (lift (itemsD k ds) ρ1).bd fun items _ =>
    if vs.any (isOw ρ1) || borIn vs as then .er "an owned name in a comprehension" else
    noEx ((compL tg vs (evC cs) (fun ρ' => (evE ek ρ').bd fun x ρ2 => (evE ev ρ2).bd fun y ρ3 => .ok (x, y) ρ3) (fun ρ' => sameD (rsAll ρ' as) (some ds)) items (wipeS ρ1 vs)).bd fun xs ρ2 =>
      .ok (.dict (xs.foldl (fun kvs kv => dput kv.1 kv.2 kvs) [])) (backS ρ1 ρ2 vs))
/-- an argument: an owned list is only read -/
def evA : E → Ev → R Arg
  | .bor i, ρ => match getS ρ i with
    | some _ => .ok (.bor i) ρ
    | none => .er s!"borrowed slot {i}"
  | .ite c a b, ρ => (evT c ρ).bd fun k ρ1 => if k then evA a ρ1 else evA b ρ1
  | e, ρ => (evE e ρ).bd fun d ρ1 => .ok (.val d) ρ1
def evT : E → Ev → R Bool
  | .not a, ρ => (evT a ρ).bd fun k ρ1 => .ok (!k) ρ1
  | .and a b, ρ => (evT a ρ).bd fun k ρ1 => if k then evT b ρ1 else .ok false ρ1
  | .or a b, ρ => (evT a ρ).bd fun k ρ1 => if k then .ok true ρ1 else evT b ρ1
  | .ite c a b, ρ => (evT c ρ).bd fun k ρ1 => if k then evT a ρ1 else evT b ρ1
  | .bor i, ρ => match getS ρ i with
    | some d => (match truthy d with
      | some b => .ok b ρ
      | none => .er "truth")
    | none => .er s!"borrowed slot {i}"
  | e, ρ => (evE e ρ).bd fun d ρ1 => match truthy d with
    | some b => .ok b ρ1
    | none => .er "truth"
def evC : List E → Ev → R Bool
  | [], ρ => .ok true ρ
  | [c], ρ => evT c ρ
  | _, _ => .er "two tests"
def evEs : List E → Ev → R (List D)
  | [], ρ => .ok [] ρ
  | e :: es, ρ => (evE e ρ).bd fun d ρ1 => (evEs es ρ1).bd fun ds ρ2 => .ok (d :: ds) ρ2
def evAs : List E → Ev → R (List Arg)
  | [], ρ => .ok [] ρ
  | e :: es, ρ => (evA e ρ).bd fun d ρ1 => (evAs es ρ1).bd fun ds ρ2 => .ok (d :: ds) ρ2
end

/-! ### statements -/
def R.out {α : Type} (r : R α) (f : α → Ev → Out) : Out := match r with
  | .ok a ρ => f a ρ
  | .ex c d ρ => .ex c d ρ
  | .er m => .er m
/-- the value is a list that nobody else has -/
def freshE (Ff : String → Bool) : E → Bool
  | .lst _ => true | .comp .. => true | .comp2 .. => true
  | .bi b _ => b == .list || b == .sorted || b == .sset || b == .lrng
  | .op o _ _ => (o == .add || o == .mul)
  | .slc .. => true | .rev _ => true
  | .call f _ => Ff f
  | .ite _ a b => freshE Ff a && freshE Ff b
  | _ => false
/-- the slots that a statement may give another value -/
def tgS : Tg → List Nat
  | .nm i => [i]
  | .tp is => is
mutual
def asgS : S → List Nat
  | .asg i _ => [i] | .own i _ => [i] | .asgT is _ => is | .par is _ => is.map (·.1) | .aug i _ _ => [i]
  | .ifs _ a b => asgSs a ++ asgSs b | .whl _ b => asgSs b | .for_ tg _ _ b => tgS tg ++ asgSs b
  | .tri b hs => asgSs b ++ asgH hs
  | _ => []
def asgSs : List S → List Nat
  | [] => []
  | s :: r => asgS s ++ asgSs r
def asgH : List (String × Option Nat × List S) → List Nat
  | [] => []
  | (_, i, b) :: r => i.toList ++ asgSs b ++ asgH r
end
def forL (tg : Tg) (body : Ev → Out) (still : Ev → Bool) : List D → Ev → Out
  | [], ρ => .nx ρ
  | d :: r, ρ => match bindT tg d ρ with
    | none => .er "bind"
    | some ρ1 => match body ρ1 with
      | .nx ρ2 => if still ρ2 then forL tg body still r ρ2 else .er "turned"
      | .ct ρ2 => if still ρ2 then forL tg body still r ρ2 else .er "turned"
      | o => o
def whlL (c : Ev → R Bool) (body : Ev → Out) : Nat → Ev → Out
  | 0, _ => .er "fuel"
  | n + 1, ρ => (c ρ).out fun k ρ1 => if k then (match body ρ1 with
      | .nx ρ2 => whlL c body n ρ2
      | .ct ρ2 => whlL c body n ρ2
      | o => o) else .nx ρ1
def noOw (ρ : Ev) : Tg → Bool
  | .nm i => !isOw ρ i
  | .tp is => !is.any (isOw ρ)
def parS (ρ : Ev) : List (Nat × Bool) → List D → Option Ev
  | [], [] => some ρ
  | (i, o) :: is, d :: ds => if o && !isLst d then none else parS (ρ.set i (if o then .ow d else .sh d)) is ds
  | _, _ => none
variable (n : Nat) (io : List Nat) (ff : Bool)
mutual
def evS : S → Ev → Out
  | .expr e, ρ => (evE C e ρ).out fun _ ρ1 => .nx ρ1
  | .app i e, ρ => if !isOw ρ i then .er "append: not owned" else (evE C e ρ).out fun d ρ1 => match ρ1[i]? with
    | some (.ow (.list xs)) => if lenOk xs then .nx (ρ1.set i (.ow (.list (xs ++ [d])))) else .er "append long"
    | _ => .er "append: not owned"
  | .ext i e, ρ => if !isOw ρ i then .er "extend: not owned" else (evE C e ρ).out fun d ρ1 => match ρ1[i]?, d with
    | some (.ow (.list xs)), .list ys => if lenOk (xs ++ ys) then .nx (ρ1.set i (.ow (.list (xs ++ ys)))) else .er "extend long"
    | _, _ => .er "extend"
  | .asg i e, ρ => (evE C e ρ).out fun d ρ1 => .nx (ρ1.set i (.sh d))
  | .own i e, ρ => if freshE C.ff e then (evE C e ρ).out fun d ρ1 => if isLst d then .nx (ρ1.set i (.ow d)) else .er "own: no list" else .er "not fresh"
  | .asgT is e, ρ => (evE C e ρ).out fun d ρ1 => match d with
    | .tuple ds => (match setAll ρ1 is ds with
      | some ρ2 => .nx ρ2
      | none => .er "unpack")
    | _ => .er "unpack"
  | .par is es, ρ => if (is.zip es).all (fun p => !p.1.2 || freshE C.ff p.2) then (evEs C es ρ).out fun ds ρ1 => (match parS ρ1 is ds with
      | some ρ2 => .nx ρ2
      | none => .er "par") else .er "par: not fresh"
  | .seti i a b, ρ => (evE C b ρ).out fun d ρ1 => if !isOw ρ1 i then .er "store: not owned" else (evE C a ρ1).out fun k ρ2 => match ρ2[i]?, k with
    | some (.ow (.list xs)), .int j => (match ixN xs.length j with
      | some m => .nx (ρ2.set i (.ow (.list (xs.set m d))))
      | none => .er "store index")
    | some (.ow (.dict kvs)), k => if lenOk kvs && shap 30 k then .nx (ρ2.set i (.ow (.dict (dput k d kvs)))) else .er "dict long"
    | _, _ => .er "store"
  | .aug i o e, ρ => match ρ[i]? with
    | some (.sh (.int x)) => (evE C e ρ).out fun d ρ1 => (match d with
      | .int y => (lift (opD o (.int x) (.int y)) ρ1).out fun z ρ2 => .nx (ρ2.set i (.sh z))
      | _ => .er "aug")
    | _ => .er "aug"
  | .augs i a o e, ρ => if !isOw ρ i then .er "augs" else (evE C a ρ).out fun k ρ1 => match ρ1[i]?, k with
    | some (.ow (.list xs)), .int j => if 0 ≤ j then (match xs[j.toNat]? with
      | some (.int x) => (evE C e ρ1).out fun y ρ2 => (match ρ2[i]?, y with
        | some (.ow (.list ys)), .int y => if j.toNat < ys.length then (lift (opD o (.int x) (.int y)) ρ2).out fun z ρ3 => .nx (ρ3.set i (.ow (.list (ys.set j.toNat z)))) else .er "augs"
        | _, _ => .er "augs")
      | _ => .er "augs") else .er "augs"
    | _, _ => .er "augs"
  | .ret e, ρ => (evA C e ρ).out fun a ρ1 => match a with
    | .val d => if !ff || (freshE C.ff e && isLst d) then .rt d ρ1 else .er "result not fresh"
    | .bor i => (match ρ1[i]? with
      | some (.ow d) => if io.contains i then .er "a handed list given back" else .rt d ρ1
      | some (.sh d) => if ff then .er "result not fresh" else .rt d ρ1
      | _ => .er "ret")
  | .ret0, ρ => if ff then .er "result not fresh" else .rt .none ρ
  | .ifs c a b, ρ => (evT C c ρ).out fun k ρ1 => if k then evSs a ρ1 else evSs b ρ1
  | .whl c b, ρ => whlL (evT C c) (evSs b) n ρ
  | .for_ tg k es b, ρ => (evAs C es ρ).out fun as ρ1 => match rsAll ρ1 as with
    | some ds => if borIn (tgS tg ++ asgSs b) as then .er "the walked list is stored anew" else (lift (itemsD k ds) ρ1).out fun items _ => forL tg (evSs b) (fun ρ' => sameD (rsAll ρ' as) (some ds)) items ρ1
    | none => .er "unresolved"
  | .raise c es, ρ => (evEs C es ρ).out fun ds ρ1 => match ds with
    | [] => .ex c .none ρ1
    | [d] => .ex c d ρ1
    | _ => .er "raise"
  | .tri b hs, ρ => match evSs b ρ with
    | .ex c d ρ1 => evH hs c d ρ1
    | o => o
  | .cnt, ρ => .ct ρ
  | .pas, ρ => .nx ρ
def evSs : List S → Ev → Out
  | [], ρ => .nx ρ
  | s :: r, ρ => match evS s ρ with
    | .nx ρ1 => evSs r ρ1
    | o => o
def evH : List (String × Option Nat × List S) → String → D → Ev → Out
  | [], c, d, ρ => .ex c d ρ
  | (c', i, b) :: r, c, d, ρ => if c' == c then (match i with
      | none => evSs b ρ
      | some i => if decide (i < ρ.length) then (match evSs b (ρ.set i (.xn c d)) with
        | .nx ρ1 => .nx (ρ1.set i .un)
        | .ct ρ1 => .ct (ρ1.set i .un)
        | o => o) else .er "no slot") else evH r c d ρ
end
/-- the parameters' slots -/
def slots0 (io : List Nat) : Nat → List D → Ev
  | _, [] => []
  | i, d :: r => (if io.contains i then .ow d else .sh d) :: slots0 io (i + 1) r
def outIo (ρ : Ev) : List Nat → Option (List D)
  | [] => some []
  | i :: r => match ρ[i]? with
    | some (.ow d) => (outIo ρ r).map (d :: ·)
    | _ => none
def finC (ff : Bool) (io : List Nat) : Out → Rc
  | .rt d ρ => match outIo ρ io with
    | some ios => .ok d ios
    | none => .er "a handed list is lost"
  | .nx ρ => if ff then .er "result not fresh" else match outIo ρ io with
    | some ios => .ok .none ios
    | none => .er "a handed list is lost"
  | .ex c d ρ => match outIo ρ io with
    | some ios => .ex c d ios
    | none => .er "a handed list is lost"
  | .ct _ => .er "continue"
  | .er m => .er m
/-- a def's call by its body -/
def bodyC (df : Df) (args : List D) : Rc :=
  if args.length ≠ df.np then .er "arity" else
  if df.ff && !df.io.isEmpty then .er "handed lists and a new one" else
  if df.io.any (fun i => (asgSs df.body).contains i || !((args[i]?).map isLst == some true)) then .er "a handed list is stored anew" else
  finC df.ff df.io (evSs C n df.io df.ff df.body (slots0 df.io 0 args ++ List.replicate (df.ns - df.np) .un))
end
/-- a program: its defs, its constants -/
structure Pg where
  defs : String → Option Df
  G : String → Option D
def Pg.io (P : Pg) (f : String) : List Nat := match P.defs f with
  | some d => d.io
  | none => []
def Pg.ff (P : Pg) (f : String) : Bool := match P.defs f with
  | some d => d.ff
  | none => false
/-- a call, at most k calls deep; a while turns fewer than n times -/
def callP (P : Pg) (n : Nat) : Nat → String → List D → Rc
  | 0, f, _ => .er s!"too deep: {f}"
  | k + 1, f, args => match P.defs f with
    | none => .er s!"no def: {f}"
    | some df => match bodyC ⟨callP P n k, P.G, P.io, P.ff⟩ n df args with
      | .er m => .er s!"{f}: {m}"
      | r => r
end JK

end
section
set_option linter.all false
set_option autoImplicit false
set_option maxRecDepth 100000
/-! JkSym: running the evaluator by simp. -/
namespace JK.JKS
open PySem
/-- a list of small numbers as a value -/
abbrev N (n : Nat) : D := .int (n : Int)
def nats (xs : List Nat) : List D := xs.map fun x : Nat => .int (x : Int)
@[scoped simp] theorem nats_nil : nats [] = [] := id rfl
@[scoped simp] theorem nats_cons (x : Nat) (xs : List Nat) : nats (x :: xs) = .int (x : Int) :: nats xs := id rfl
@[scoped simp] theorem nats_len (xs : List Nat) : (nats xs).length = xs.length := by simp [nats]
theorem nats_app (xs ys : List Nat) : nats (xs ++ ys) = nats xs ++ nats ys := by simp [nats]

/-! ### R -/
@[scoped simp] theorem bd_ok {α β : Type} (a : α) (ρ : Ev) (f : α → Ev → R β) : (R.ok a ρ).bd f = f a ρ := id rfl
@[scoped simp] theorem bd_ex {α β : Type} (c : String) (d : D) (ρ : Ev) (f : α → Ev → R β) : (R.ex c d ρ).bd f = .ex c d ρ := id rfl
@[scoped simp] theorem bd_er {α β : Type} (m : String) (f : α → Ev → R β) : (R.er m).bd f = .er m := id rfl
@[scoped simp] theorem out_ok {α : Type} (a : α) (ρ : Ev) (f : α → Ev → Out) : (R.ok a ρ).out f = f a ρ := id rfl
@[scoped simp] theorem out_ex {α : Type} (c : String) (d : D) (ρ : Ev) (f : α → Ev → Out) : (R.ex c d ρ).out f = .ex c d ρ := id rfl
@[scoped simp] theorem out_er {α : Type} (m : String) (f : α → Ev → Out) : (R.er m).out f = .er m := id rfl
@[scoped simp] theorem lift_ok {α : Type} (a : α) (ρ : Ev) : lift (.ok a) ρ = .ok a ρ := id rfl
@[scoped simp] theorem lift_er {α : Type} (m : String) (ρ : Ev) : lift (.error m : Except String α) ρ = .er m := id rfl
@[scoped simp] theorem noEx_ok {α : Type} (a : α) (ρ : Ev) : noEx (.ok a ρ) = .ok a ρ := id rfl
@[scoped simp] theorem rs_val (ρ : Ev) (d : D) : rs ρ (.val d) = some d := id rfl
@[scoped simp] theorem rs_bor (ρ : Ev) (i : Nat) : rs ρ (.bor i) = getS ρ i := id rfl
@[scoped simp] theorem rsAll_nil (ρ : Ev) : rsAll ρ [] = some [] := id rfl
@[scoped simp] theorem rsAll_cons (ρ : Ev) (a : Arg) (r : List Arg) : rsAll ρ (a :: r) = (rs ρ a).bind fun d => (rsAll ρ r).map (d :: ·) := id rfl
@[scoped simp] theorem slotD_sh (d : D) : slotD (.sh d) = some d := id rfl
@[scoped simp] theorem slotD_ow (d : D) : slotD (.ow d) = some d := id rfl
@[scoped simp] theorem getS_z (s : Sl) (r : Ev) : getS (s :: r) 0 = slotD s := id rfl
@[scoped simp] theorem getS_s (s : Sl) (r : Ev) (i : Nat) : getS (s :: r) (i + 1) = getS r i := id rfl
theorem withA_eq {α : Type} {as : List Arg} {ρ : Ev} {ds : List D} (f : List D → R α) (h : rsAll ρ as = some ds) : withA as ρ f = f ds := by simp [withA, h]
@[scoped simp] theorem withA_some {α : Type} (as : List Arg) (ρ : Ev) (f : List D → R α) : withA as ρ f = match rsAll ρ as with
  | some ds => f ds
  | none => .er "unresolved" := id rfl
@[scoped simp] theorem readV_z (d : D) (r : Ev) : readV (.sh d :: r) 0 = .ok d (.sh d :: r) := id rfl
@[scoped simp] theorem readV_zo (d : D) (r : Ev) : readV (.ow d :: r) 0 = .ok d (.sh d :: r) := id rfl
/-- reading a slot behind the first one -/
def consR {α : Type} (s : Sl) : R α → R α
  | .ok a ρ => .ok a (s :: ρ)
  | .ex c d ρ => .ex c d (s :: ρ)
  | .er m => .er m
@[scoped simp] theorem ge_z {α : Type} (s : α) (r : List α) : (s :: r)[0]? = some s := id rfl
@[scoped simp] theorem ge_n {α : Type} (i : Nat) : ([] : List α)[i]? = none := id rfl
@[scoped simp] theorem readV_def (ρ : Ev) (i : Nat) : readV ρ i = match ρ[i]? with
  | some (.sh d) => .ok d ρ
  | some (.ow d) => .ok d (ρ.set i (.sh d))
  | _ => .er s!"slot {i}" := id rfl
@[scoped simp] theorem isOw_z (s : Sl) (r : Ev) : isOw (s :: r) 0 = (match s with | .ow _ => true | _ => false) := by cases s <;> rfl
@[scoped simp] theorem isOw_s (s : Sl) (r : Ev) (i : Nat) : isOw (s :: r) (i + 1) = isOw r i := id rfl
@[scoped simp] theorem isVal_v (d : D) : isVal (.val d) = true := id rfl
@[scoped simp] theorem isVal_b (i : Nat) : isVal (.bor i) = false := id rfl
@[scoped simp] theorem wipeS_nil (ρ : Ev) : wipeS ρ [] = ρ := id rfl
@[scoped simp] theorem wipeS_cons (ρ : Ev) (v : Nat) (vs : List Nat) : wipeS ρ (v :: vs) = (wipeS ρ vs).set v .un := id rfl
@[scoped simp] theorem backS_nil (ρ0 ρ : Ev) : backS ρ0 ρ [] = ρ := id rfl
@[scoped simp] theorem backS_cons (ρ0 ρ : Ev) (v : Nat) (vs : List Nat) : backS ρ0 ρ (v :: vs) = (backS ρ0 ρ vs).set v (ρ0.getD v .un) := id rfl
@[scoped simp] theorem setAll_nil (ρ : Ev) : setAll ρ [] [] = some ρ := id rfl
@[scoped simp] theorem setAll_cons (ρ : Ev) (i : Nat) (is : List Nat) (d : D) (ds : List D) : setAll ρ (i :: is) (d :: ds) = setAll (ρ.set i (.sh d)) is ds := id rfl
@[scoped simp] theorem bindT_nm (i : Nat) (d : D) (ρ : Ev) : bindT (.nm i) d ρ = some (ρ.set i (.sh d)) := id rfl
@[scoped simp] theorem bindT_tp (is : List Nat) (ds : List D) (ρ : Ev) : bindT (.tp is) (.tuple ds) ρ = setAll ρ is ds := id rfl
@[scoped simp] theorem isLst_l (xs : List D) : isLst (.list xs) = true := by simp [isLst]
@[scoped simp] theorem parS_nil (ρ : Ev) : parS ρ [] [] = some ρ := id rfl
@[scoped simp] theorem parS_cons (ρ : Ev) (i : Nat) (o : Bool) (is : List (Nat × Bool)) (d : D) (ds : List D) : parS ρ ((i, o) :: is) (d :: ds) = if o && !isLst d then none else parS (ρ.set i (if o then .ow d else .sh d)) is ds := id rfl
@[scoped simp] theorem slotsIo_nil (as : List Arg) (ρ : Ev) : slotsIo as ρ [] = some [] := id rfl
@[scoped simp] theorem slotsIo_cons (as : List Arg) (ρ : Ev) (i : Nat) (r : List Nat) : slotsIo as ρ (i :: r) = match as[i]? with
  | some (.bor s) => if isOw ρ s then (slotsIo as ρ r).map (s :: ·) else none
  | _ => none := id rfl
@[scoped simp] theorem setOws_nil (ρ : Ev) : setOws ρ [] [] = some ρ := id rfl
@[scoped simp] theorem setOws_cons (ρ : Ev) (s : Nat) (ss : List Nat) (d : D) (ds : List D) : setOws ρ (s :: ss) (d :: ds) = if isLst d then setOws (ρ.set s (.ow d)) ss ds else none := id rfl
@[scoped simp] theorem callR_nil (as : List Arg) (r : Rc) (ρ : Ev) : callR' as [] r ρ = afterC (!as.all isVal) r ρ := id rfl
@[scoped simp] theorem callR_cons (as : List Arg) (i : Nat) (io : List Nat) (r : Rc) (ρ : Ev) : callR' as (i :: io) r ρ = match slotsIo as ρ (i :: io) with
    | some ss => if nodupB ss && onlyIo as (i :: io) then afterM ss r ρ else .er "handed lists"
    | none => .er "handed lists" := id rfl
@[scoped simp] theorem afterC_ok (b : Bool) (d : D) (ios : List D) (ρ : Ev) : afterC b (.ok d ios) ρ = if !b || flat d then .ok d ρ else .er "a borrowed list may come back" := id rfl
@[scoped simp] theorem afterC_ex (b : Bool) (c : String) (d : D) (ios : List D) (ρ : Ev) : afterC b (.ex c d ios) ρ = .ex c d ρ := id rfl
@[scoped simp] theorem afterM_ok (ss : List Nat) (d : D) (ios : List D) (ρ : Ev) : afterM ss (.ok d ios) ρ = match setOws ρ ss ios with
    | some ρ' => .ok d ρ'
    | none => .er "handed lists" := id rfl
@[scoped simp] theorem nodupB_nil : nodupB [] = true := id rfl
@[scoped simp] theorem nodupB_cons (i : Nat) (r : List Nat) : nodupB (i :: r) = (!r.contains i && nodupB r) := id rfl
@[scoped simp] theorem flat_int (i : Int) : flat (.int i) = true := id rfl
@[scoped simp] theorem flat_bool (i : Bool) : flat (.bool i) = true := id rfl
@[scoped simp] theorem flat_none : flat .none = true := id rfl
@[scoped simp] theorem flat_str (s : Str) : flat (.str s) = true := id rfl
@[scoped simp] theorem flat_tuple (xs : List D) : flat (.tuple xs) = flats xs := by simp [flat]
@[scoped simp] theorem flats_nil : flats [] = true := id rfl
@[scoped simp] theorem flats_cons (x : D) (xs : List D) : flats (x :: xs) = (flat x && flats xs) := id rfl
@[scoped simp] theorem flats_nats : ∀ xs : List Nat, flats (nats xs) = true
  | [] => rfl
  | x :: xs => by simp [flats_nats xs]
@[scoped simp] theorem truthy_none : truthy .none = some false := id rfl
@[scoped simp] theorem truthy_bool (b : Bool) : truthy (.bool b) = some b := id rfl
@[scoped simp] theorem truthy_int (i : Int) : truthy (.int i) = some (i != 0) := id rfl
@[scoped simp] theorem truthy_list (xs : List D) : truthy (.list xs) = some (!xs.isEmpty) := id rfl
@[scoped simp] theorem truthy_tuple (xs : List D) : truthy (.tuple xs) = some (!xs.isEmpty) := id rfl
@[scoped simp] theorem optI_nil : optI [] = some none := id rfl
@[scoped simp] theorem optI_one (i : Int) : optI [.int i] = some (some i) := id rfl
theorem borIn_nil (vs : List Nat) : borIn vs [] = false := rfl
@[scoped simp] theorem borIn_v (vs : List Nat) (d : D) (as : List Arg) : borIn vs (.val d :: as) = borIn vs as := by simp [borIn]
@[scoped simp] theorem borIn_b (vs : List Nat) (i : Nat) (as : List Arg) : borIn vs (.bor i :: as) = (vs.contains i || borIn vs as) := by simp [borIn]
@[scoped simp] theorem borIn_n (vs : List Nat) : borIn vs [] = false := id rfl

/-! ### expressions -/
section
variable (C : Cfg) (ρ : Ev)
@[scoped simp] theorem evE_var (i : Nat) : evE C (.var i) ρ = readV ρ i := by first | (rw [evE]; done) | (rw [evE]; rfl)
@[scoped simp] theorem evE_non : evE C .non ρ = .ok .none ρ := by first | (rw [evE]; done) | (rw [evE]; rfl)
@[scoped simp] theorem evE_bl (b : Bool) : evE C (.bl b) ρ = .ok (.bool b) ρ := by first | (rw [evE]; done) | (rw [evE]; rfl)
@[scoped simp] theorem evE_int (i : Int) : evE C (.int i) ρ = .ok (.int i) ρ := by first | (rw [evE]; done) | (rw [evE]; rfl)
@[scoped simp] theorem evE_str (s : Str) : evE C (.str s) ρ = .ok (.str s) ρ := by first | (rw [evE]; done) | (rw [evE]; rfl)
@[scoped simp] theorem evE_glo (x : String) : evE C (.glo x) ρ = match C.G x with
    | some d => .ok d ρ
    | none => .er "no global" := by first | (rw [evE]; done) | (rw [evE]; rfl)
@[scoped simp] theorem evE_op (o : Op) (a b : E) : evE C (.op o a b) ρ = (evA C a ρ).bd fun x ρ1 => (evA C b ρ1).bd fun y ρ2 => withA [x, y] ρ2 fun ds => match ds with
    | [d, e] => lift (opD o d e) ρ2
    | _ => .er "op" := by first | (rw [evE]; done) | (rw [evE]; rfl)
@[scoped simp] theorem evE_neg (a : E) : evE C (.neg a) ρ = (evE C a ρ).bd fun d ρ1 => match d with
    | .int i => .ok (.int (-i)) ρ1
    | _ => .er "neg" := by first | (rw [evE]; done) | (rw [evE]; rfl)
@[scoped simp] theorem evE_inv (a : E) : evE C (.inv a) ρ = (evE C a ρ).bd fun d ρ1 => match d with
    | .int i => .ok (.int (Builtin.bitNot i)) ρ1
    | _ => .er "inv" := by first | (rw [evE]; done) | (rw [evE]; rfl)
@[scoped simp] theorem evE_not (a : E) : evE C (.not a) ρ = (evA C a ρ).bd fun x ρ1 => withA [x] ρ1 fun ds => match ds with
    | [d] => match truthy d with
      | some b => .ok (.bool (!b)) ρ1
      | none => .er "truth"
    | _ => .er "not" := by first | (rw [evE]; done) | (rw [evE]; rfl)
@[scoped simp] theorem evE_and (a b : E) : evE C (.and a b) ρ = (evE C a ρ).bd fun d ρ1 => match truthy d with
    | some true => evE C b ρ1
    | some false => .ok d ρ1
    | none => .er "truth" := by first | (rw [evE]; done) | (rw [evE]; rfl)
@[scoped simp] theorem evE_or (a b : E) : evE C (.or a b) ρ = (evE C a ρ).bd fun d ρ1 => match truthy d with
    | some true => .ok d ρ1
    | some false => evE C b ρ1
    | none => .er "truth" := by first | (rw [evE]; done) | (rw [evE]; rfl)
/-- a choice by a truth that is not looked into -/
def selB {α : Type} (p : Bool) (A B : α) : α := if p then A else B
@[scoped simp] theorem selB_t {α : Type} (A B : α) : selB true A B = A := id rfl
@[scoped simp] theorem selB_f {α : Type} (A B : α) : selB false A B = B := id rfl
@[scoped simp] theorem m_and (p : Bool) (A B : R D) : (match some p with
    | some true => A
    | some false => B
    | none => .er "truth") = selB p A B := by cases p <;> rfl
@[scoped simp] theorem selB_and (p q : Bool) (ρ : Ev) : selB p (R.ok (PyData.bool q) ρ) (R.ok (.bool p) ρ) = R.ok (.bool (p && q)) ρ := by cases p <;> rfl
@[scoped simp] theorem selB_or (p q : Bool) (ρ : Ev) : selB p (R.ok (PyData.bool p) ρ) (R.ok (.bool q) ρ) = R.ok (.bool (p || q)) ρ := by cases p <;> rfl
@[scoped simp] theorem evE_cmp (o : Cp) (a b : E) : evE C (.cmp o a b) ρ = (evA C a ρ).bd fun x ρ1 => (evA C b ρ1).bd fun y ρ2 => withA [x, y] ρ2 fun ds => match ds with
    | [d, e] => (lift (cmpD o d e) ρ2).bd fun b ρ3 => .ok (.bool b) ρ3
    | _ => .er "cmp" := by first | (rw [evE]; done) | (rw [evE]; rfl)
@[scoped simp] theorem evE_chain (o o' : Cp) (a b c : E) : evE C (.chain o o' a b c) ρ = (evE C a ρ).bd fun x ρ1 => (evE C b ρ1).bd fun y ρ2 => (lift (cmpD o x y) ρ2).bd fun k ρ3 =>
    if k then (evE C c ρ3).bd fun z ρ4 => (lift (cmpD o' y z) ρ4).bd fun k' ρ5 => .ok (.bool k') ρ5 else .ok (.bool false) ρ3 := by first | (rw [evE]; done) | (rw [evE]; rfl)
@[scoped simp] theorem evE_ite (c a b : E) : evE C (.ite c a b) ρ = (evT C c ρ).bd fun k ρ1 => if k then evE C a ρ1 else evE C b ρ1 := by first | (rw [evE]; done) | (rw [evE]; rfl)
@[scoped simp] theorem evE_call (f : String) (es : List E) : evE C (.call f es) ρ = (evAs C es ρ).bd fun as ρ1 => withA as ρ1 fun ds => callR' as (C.io f) (C.F f ds) ρ1 := by first | (rw [evE]; done) | (rw [evE]; rfl)
@[scoped simp] theorem evE_bi (b : Bi) (es : List E) : evE C (.bi b es) ρ = (evAs C es ρ).bd fun as ρ1 => withA as ρ1 fun ds => lift (biD b ds) ρ1 := by first | (rw [evE]; done) | (rw [evE]; rfl)
@[scoped simp] theorem evE_isi (t : String) (a : E) : evE C (.isi t a) ρ = (evA C a ρ).bd fun x ρ1 => withA [x] ρ1 fun ds => match ds with
    | [d] => (lift (isiD t d) ρ1).bd fun b ρ2 => .ok (.bool b) ρ2
    | _ => .er "isinstance" := by first | (rw [evE]; done) | (rw [evE]; rfl)
@[scoped simp] theorem evE_tup (es : List E) : evE C (.tup es) ρ = (evEs C es ρ).bd fun ds ρ1 => .ok (.tuple ds) ρ1 := by first | (rw [evE]; done) | (rw [evE]; rfl)
@[scoped simp] theorem evE_lst (es : List E) : evE C (.lst es) ρ = (evEs C es ρ).bd fun ds ρ1 => .ok (.list ds) ρ1 := by first | (rw [evE]; done) | (rw [evE]; rfl)
@[scoped simp] theorem evE_dis0 (vs : List E) : evE C (.dis [] vs) ρ = .ok (.dict []) ρ := by first | (rw [evE]; done) | (rw [evE]; rfl)
@[scoped simp] theorem evE_sub (a b : E) : evE C (.sub a b) ρ = (evA C a ρ).bd fun x ρ1 => (evA C b ρ1).bd fun y ρ2 => withA [x, y] ρ2 fun ds => match ds with
    | [d, e] => lift (subD d e) ρ2
    | _ => .er "sub" := by first | (rw [evE]; done) | (rw [evE]; rfl)
@[scoped simp] theorem evE_slc (a : E) (lo hi : List E) : evE C (.slc a lo hi) ρ = (evA C a ρ).bd fun x ρ1 => (evEs C lo ρ1).bd fun l ρ2 => match optI l with
    | none => .er "slice"
    | some lv => (evEs C hi ρ2).bd fun h ρ3 => match optI h with
      | none => .er "slice"
      | some hv => withA [x] ρ3 fun ds => match ds with
        | [d] => lift (slcD d lv hv) ρ3
        | _ => .er "slice" := by first | (rw [evE]; done) | (rw [evE]; rfl)
@[scoped simp] theorem evE_rev (a : E) : evE C (.rev a) ρ = (evA C a ρ).bd fun x ρ1 => withA [x] ρ1 fun ds => match ds with
    | [.list xs] => .ok (.list xs.reverse) ρ1
    | _ => .er "reverse" := by first | (rw [evE]; done) | (rw [evE]; rfl)
@[scoped simp] theorem evE_pop (i : Nat) (es : List E) : evE C (.pop i es) ρ = if !isOw ρ i then .er "pop: not owned" else (evEs C es ρ).bd fun ds ρ1 => match ρ1[i]? with
    | some (.ow (.list xs)) => (match ds with
      | [] => popAt xs (xs.length - 1) i ρ1
      | [.int k] => (match ixN xs.length k with
        | some j => popAt xs j i ρ1
        | none => .er "pop index")
      | _ => .er "pop")
    | _ => .er "pop: not owned" := by first | (rw [evE]; done) | (rw [evE]; rfl)
@[scoped simp] theorem evE_me (m : Me) (a : E) (es : List E) : evE C (.me m a es) ρ = (evA C a ρ).bd fun x ρ1 => if isLA (rs ρ1 x) then (evAs C es ρ1).bd fun as ρ2 => withA (x :: as) ρ2 fun ds => match ds with
    | d :: ds => lift (meD m d ds) ρ2
    | _ => .er "method"
    else .er "method of no list" := by first | (rw [evE]; done) | (rw [evE]; rfl)
/-- what a comprehension makes of its items -/
def compE {α : Type} (tg : Tg) (vs : List Nat) (as : List Arg) (ds : List D) (cond : Ev → R Bool) (elt : Ev → R α) (items : List D) (ρ1 : Ev) : R (List α) :=
    if vs.any (isOw ρ1) || borIn vs as then .er "an owned name in a comprehension" else
    noEx ((compL tg vs cond elt (fun ρ' => sameD (rsAll ρ' as) (some ds)) items (wipeS ρ1 vs)).bd fun xs ρ2 => .ok xs (backS ρ1 ρ2 vs))
theorem bd_noEx {α β : Type} (r : R α) (f : α → β) (g : Ev → Ev) (h : Ev → Ev) : noEx (r.bd fun xs ρ2 => .ok (f xs) (g ρ2)) = (noEx (r.bd fun xs ρ2 => .ok xs (g ρ2))).bd fun xs ρ3 => .ok (f xs) ρ3 := by cases r <;> rfl
@[scoped simp] theorem evE_comp (elt : E) (tg : Tg) (k : Ik) (es cs : List E) (vs : List Nat) : evE C (.comp elt tg k es cs vs) ρ = (evAs C es ρ).bd fun as ρ1 => withA as ρ1 fun ds => (lift (itemsD k ds) ρ1).bd fun items _ =>
    (compE tg vs as ds (evC C cs) (evE C elt) items ρ1).bd fun xs ρ3 => .ok (.list xs) ρ3 := by
  rw [evE]
  congr; funext as ρ1; congr; funext ds; congr; funext items _
  unfold compE
  split
  · rfl
  · exact bd_noEx _ _ _ id
@[scoped simp] theorem evA_var (i : Nat) : evA C (.var i) ρ = (readV ρ i).bd fun d ρ1 => .ok (.val d) ρ1 := by
  rw [← evE_var C]
  rw [evA] <;> first | rfl | (intros; contradiction) | skip
@[scoped simp] theorem evA_bor (i : Nat) : evA C (.bor i) ρ = match getS ρ i with
    | some _ => .ok (.bor i) ρ
    | none => .er s!"borrowed slot {i}" := by first | (rw [evA]; done) | (rw [evA]; rfl)
@[scoped simp] theorem evA_ite (c a b : E) : evA C (.ite c a b) ρ = (evT C c ρ).bd fun k ρ1 => if k then evA C a ρ1 else evA C b ρ1 := by first | (rw [evA]; done) | (rw [evA]; rfl)
@[scoped simp] theorem evT_not (a : E) : evT C (.not a) ρ = (evT C a ρ).bd fun k ρ1 => .ok (!k) ρ1 := by first | (rw [evT]; done) | (rw [evT]; rfl)
@[scoped simp] theorem evT_and (a b : E) : evT C (.and a b) ρ = (evT C a ρ).bd fun k ρ1 => if k then evT C b ρ1 else .ok false ρ1 := by first | (rw [evT]; done) | (rw [evT]; rfl)
@[scoped simp] theorem evT_or (a b : E) : evT C (.or a b) ρ = (evT C a ρ).bd fun k ρ1 => if k then .ok true ρ1 else evT C b ρ1 := by first | (rw [evT]; done) | (rw [evT]; rfl)
@[scoped simp] theorem evT_ite (c a b : E) : evT C (.ite c a b) ρ = (evT C c ρ).bd fun k ρ1 => if k then evT C a ρ1 else evT C b ρ1 := by first | (rw [evT]; done) | (rw [evT]; rfl)
@[scoped simp] theorem evT_bor (i : Nat) : evT C (.bor i) ρ = match getS ρ i with
    | some d => (match truthy d with
      | some b => .ok b ρ
      | none => .er "truth")
    | none => .er s!"borrowed slot {i}" := by first | (rw [evT]; done) | (rw [evT]; rfl)
@[scoped simp] theorem evA_non  : evA C .non ρ = (evE C .non ρ).bd fun d ρ1 => .ok (.val d) ρ1 := by rw [evA] <;> first | rfl | (intros; contradiction) | skip
@[scoped simp] theorem evT_non  : evT C .non ρ = (evE C .non ρ).bd fun d ρ1 => match truthy d with
    | some b => .ok b ρ1
    | none => .er "truth" := by rw [evT] <;> first | rfl | (intros; contradiction)
@[scoped simp] theorem evA_bl (b : Bool) : evA C (.bl b) ρ = (evE C (.bl b) ρ).bd fun d ρ1 => .ok (.val d) ρ1 := by rw [evA] <;> first | rfl | (intros; contradiction) | skip
@[scoped simp] theorem evT_bl (b : Bool) : evT C (.bl b) ρ = (evE C (.bl b) ρ).bd fun d ρ1 => match truthy d with
    | some b => .ok b ρ1
    | none => .er "truth" := by rw [evT] <;> first | rfl | (intros; contradiction)
@[scoped simp] theorem evA_int (i : Int) : evA C (.int i) ρ = (evE C (.int i) ρ).bd fun d ρ1 => .ok (.val d) ρ1 := by rw [evA] <;> first | rfl | (intros; contradiction) | skip
@[scoped simp] theorem evT_int (i : Int) : evT C (.int i) ρ = (evE C (.int i) ρ).bd fun d ρ1 => match truthy d with
    | some b => .ok b ρ1
    | none => .er "truth" := by rw [evT] <;> first | rfl | (intros; contradiction)
@[scoped simp] theorem evA_str (s : Str) : evA C (.str s) ρ = (evE C (.str s) ρ).bd fun d ρ1 => .ok (.val d) ρ1 := by rw [evA] <;> first | rfl | (intros; contradiction) | skip
@[scoped simp] theorem evT_str (s : Str) : evT C (.str s) ρ = (evE C (.str s) ρ).bd fun d ρ1 => match truthy d with
    | some b => .ok b ρ1
    | none => .er "truth" := by rw [evT] <;> first | rfl | (intros; contradiction)
@[scoped simp] theorem evA_glo (x : String) : evA C (.glo x) ρ = (evE C (.glo x) ρ).bd fun d ρ1 => .ok (.val d) ρ1 := by rw [evA] <;> first | rfl | (intros; contradiction) | skip
@[scoped simp] theorem evT_glo (x : String) : evT C (.glo x) ρ = (evE C (.glo x) ρ).bd fun d ρ1 => match truthy d with
    | some b => .ok b ρ1
    | none => .er "truth" := by rw [evT] <;> first | rfl | (intros; contradiction)
@[scoped simp] theorem evA_op (o : Op) (a b : E) : evA C (.op o a b) ρ = (evE C (.op o a b) ρ).bd fun d ρ1 => .ok (.val d) ρ1 := by rw [evA] <;> first | rfl | (intros; contradiction) | skip
@[scoped simp] theorem evT_op (o : Op) (a b : E) : evT C (.op o a b) ρ = (evE C (.op o a b) ρ).bd fun d ρ1 => match truthy d with
    | some b => .ok b ρ1
    | none => .er "truth" := by rw [evT] <;> first | rfl | (intros; contradiction)
@[scoped simp] theorem evA_neg (a : E) : evA C (.neg a) ρ = (evE C (.neg a) ρ).bd fun d ρ1 => .ok (.val d) ρ1 := by rw [evA] <;> first | rfl | (intros; contradiction) | skip
@[scoped simp] theorem evT_neg (a : E) : evT C (.neg a) ρ = (evE C (.neg a) ρ).bd fun d ρ1 => match truthy d with
    | some b => .ok b ρ1
    | none => .er "truth" := by rw [evT] <;> first | rfl | (intros; contradiction)
@[scoped simp] theorem evA_inv (a : E) : evA C (.inv a) ρ = (evE C (.inv a) ρ).bd fun d ρ1 => .ok (.val d) ρ1 := by rw [evA] <;> first | rfl | (intros; contradiction) | skip
@[scoped simp] theorem evT_inv (a : E) : evT C (.inv a) ρ = (evE C (.inv a) ρ).bd fun d ρ1 => match truthy d with
    | some b => .ok b ρ1
    | none => .er "truth" := by rw [evT] <;> first | rfl | (intros; contradiction)
@[scoped simp] theorem evA_not (a : E) : evA C (.not a) ρ = (evE C (.not a) ρ).bd fun d ρ1 => .ok (.val d) ρ1 := by rw [evA] <;> first | rfl | (intros; contradiction) | skip
@[scoped simp] theorem evA_and (a b : E) : evA C (.and a b) ρ = (evE C (.and a b) ρ).bd fun d ρ1 => .ok (.val d) ρ1 := by rw [evA] <;> first | rfl | (intros; contradiction) | skip
@[scoped simp] theorem evA_or (a b : E) : evA C (.or a b) ρ = (evE C (.or a b) ρ).bd fun d ρ1 => .ok (.val d) ρ1 := by rw [evA] <;> first | rfl | (intros; contradiction) | skip
@[scoped simp] theorem evA_cmp (o : Cp) (a b : E) : evA C (.cmp o a b) ρ = (evE C (.cmp o a b) ρ).bd fun d ρ1 => .ok (.val d) ρ1 := by rw [evA] <;> first | rfl | (intros; contradiction) | skip
@[scoped simp] theorem evT_cmp (o : Cp) (a b : E) : evT C (.cmp o a b) ρ = (evE C (.cmp o a b) ρ).bd fun d ρ1 => match truthy d with
    | some b => .ok b ρ1
    | none => .er "truth" := by rw [evT] <;> first | rfl | (intros; contradiction)
@[scoped simp] theorem evA_chain (o o' : Cp) (a b c : E) : evA C (.chain o o' a b c) ρ = (evE C (.chain o o' a b c) ρ).bd fun d ρ1 => .ok (.val d) ρ1 := by rw [evA] <;> first | rfl | (intros; contradiction) | skip
@[scoped simp] theorem evT_chain (o o' : Cp) (a b c : E) : evT C (.chain o o' a b c) ρ = (evE C (.chain o o' a b c) ρ).bd fun d ρ1 => match truthy d with
    | some b => .ok b ρ1
    | none => .er "truth" := by rw [evT] <;> first | rfl | (intros; contradiction)
@[scoped simp] theorem evA_call (f : String) (es : List E) : evA C (.call f es) ρ = (evE C (.call f es) ρ).bd fun d ρ1 => .ok (.val d) ρ1 := by rw [evA] <;> first | rfl | (intros; contradiction) | skip
@[scoped simp] theorem evT_call (f : String) (es : List E) : evT C (.call f es) ρ = (evE C (.call f es) ρ).bd fun d ρ1 => match truthy d with
    | some b => .ok b ρ1
    | none => .er "truth" := by rw [evT] <;> first | rfl | (intros; contradiction)
@[scoped simp] theorem evA_bi (b : Bi) (es : List E) : evA C (.bi b es) ρ = (evE C (.bi b es) ρ).bd fun d ρ1 => .ok (.val d) ρ1 := by rw [evA] <;> first | rfl | (intros; contradiction) | skip
@[scoped simp] theorem evT_bi (b : Bi) (es : List E) : evT C (.bi b es) ρ = (evE C (.bi b es) ρ).bd fun d ρ1 => match truthy d with
    | some b => .ok b ρ1
    | none => .er "truth" := by rw [evT] <;> first | rfl | (intros; contradiction)
@[scoped simp] theorem evA_isi (t : String) (a : E) : evA C (.isi t a) ρ = (evE C (.isi t a) ρ).bd fun d ρ1 => .ok (.val d) ρ1 := by rw [evA] <;> first | rfl | (intros; contradiction) | skip
@[scoped simp] theorem evT_isi (t : String) (a : E) : evT C (.isi t a) ρ = (evE C (.isi t a) ρ).bd fun d ρ1 => match truthy d with
    | some b => .ok b ρ1
    | none => .er "truth" := by rw [evT] <;> first | rfl | (intros; contradiction)
@[scoped simp] theorem evA_tup (es : List E) : evA C (.tup es) ρ = (evE C (.tup es) ρ).bd fun d ρ1 => .ok (.val d) ρ1 := by rw [evA] <;> first | rfl | (intros; contradiction) | skip
@[scoped simp] theorem evT_tup (es : List E) : evT C (.tup es) ρ = (evE C (.tup es) ρ).bd fun d ρ1 => match truthy d with
    | some b => .ok b ρ1
    | none => .er "truth" := by rw [evT] <;> first | rfl | (intros; contradiction)
@[scoped simp] theorem evA_lst (es : List E) : evA C (.lst es) ρ = (evE C (.lst es) ρ).bd fun d ρ1 => .ok (.val d) ρ1 := by rw [evA] <;> first | rfl | (intros; contradiction) | skip
@[scoped simp] theorem evT_lst (es : List E) : evT C (.lst es) ρ = (evE C (.lst es) ρ).bd fun d ρ1 => match truthy d with
    | some b => .ok b ρ1
    | none => .er "truth" := by rw [evT] <;> first | rfl | (intros; contradiction)
@[scoped simp] theorem evA_dis (ks vs : List E) : evA C (.dis ks vs) ρ = (evE C (.dis ks vs) ρ).bd fun d ρ1 => .ok (.val d) ρ1 := by rw [evA] <;> first | rfl | (intros; contradiction) | skip
@[scoped simp] theorem evT_dis (ks vs : List E) : evT C (.dis ks vs) ρ = (evE C (.dis ks vs) ρ).bd fun d ρ1 => match truthy d with
    | some b => .ok b ρ1
    | none => .er "truth" := by rw [evT] <;> first | rfl | (intros; contradiction)
@[scoped simp] theorem evA_sub (a b : E) : evA C (.sub a b) ρ = (evE C (.sub a b) ρ).bd fun d ρ1 => .ok (.val d) ρ1 := by rw [evA] <;> first | rfl | (intros; contradiction) | skip
@[scoped simp] theorem evT_sub (a b : E) : evT C (.sub a b) ρ = (evE C (.sub a b) ρ).bd fun d ρ1 => match truthy d with
    | some b => .ok b ρ1
    | none => .er "truth" := by rw [evT] <;> first | rfl | (intros; contradiction)
@[scoped simp] theorem evA_slc (a : E) (lo hi : List E) : evA C (.slc a lo hi) ρ = (evE C (.slc a lo hi) ρ).bd fun d ρ1 => .ok (.val d) ρ1 := by rw [evA] <;> first | rfl | (intros; contradiction) | skip
@[scoped simp] theorem evT_slc (a : E) (lo hi : List E) : evT C (.slc a lo hi) ρ = (evE C (.slc a lo hi) ρ).bd fun d ρ1 => match truthy d with
    | some b => .ok b ρ1
    | none => .er "truth" := by rw [evT] <;> first | rfl | (intros; contradiction)
@[scoped simp] theorem evA_rev (a : E) : evA C (.rev a) ρ = (evE C (.rev a) ρ).bd fun d ρ1 => .ok (.val d) ρ1 := by rw [evA] <;> first | rfl | (intros; contradiction) | skip
@[scoped simp] theorem evT_rev (a : E) : evT C (.rev a) ρ = (evE C (.rev a) ρ).bd fun d ρ1 => match truthy d with
    | some b => .ok b ρ1
    | none => .er "truth" := by rw [evT] <;> first | rfl | (intros; contradiction)
@[scoped simp] theorem evA_pop (i : Nat) (es : List E) : evA C (.pop i es) ρ = (evE C (.pop i es) ρ).bd fun d ρ1 => .ok (.val d) ρ1 := by rw [evA] <;> first | rfl | (intros; contradiction) | skip
@[scoped simp] theorem evT_pop (i : Nat) (es : List E) : evT C (.pop i es) ρ = (evE C (.pop i es) ρ).bd fun d ρ1 => match truthy d with
    | some b => .ok b ρ1
    | none => .er "truth" := by rw [evT] <;> first | rfl | (intros; contradiction)
@[scoped simp] theorem evA_me (m : Me) (a : E) (es : List E) : evA C (.me m a es) ρ = (evE C (.me m a es) ρ).bd fun d ρ1 => .ok (.val d) ρ1 := by rw [evA] <;> first | rfl | (intros; contradiction) | skip
@[scoped simp] theorem evT_me (m : Me) (a : E) (es : List E) : evT C (.me m a es) ρ = (evE C (.me m a es) ρ).bd fun d ρ1 => match truthy d with
    | some b => .ok b ρ1
    | none => .er "truth" := by rw [evT] <;> first | rfl | (intros; contradiction)
@[scoped simp] theorem evE_xf (i : Nat) (f : String) : evE C (.xf i f) ρ = match ρ[i]? with
    | some (.xn _ (.str s)) => .ok (.str s) ρ
    | _ => .er "no exception" := by first | (rw [evE]; done) | (rw [evE]; rfl)
@[scoped simp] theorem evA_xf (i : Nat) (f : String) : evA C (.xf i f) ρ = (evE C (.xf i f) ρ).bd fun d ρ1 => .ok (.val d) ρ1 := by rw [evA] <;> first | rfl | (intros; contradiction) | skip
@[scoped simp] theorem evT_xf (i : Nat) (f : String) : evT C (.xf i f) ρ = (evE C (.xf i f) ρ).bd fun d ρ1 => match truthy d with
    | some b => .ok b ρ1
    | none => .er "truth" := by rw [evT] <;> first | rfl | (intros; contradiction)
@[scoped simp] theorem evA_comp (elt : E) (tg : Tg) (k : Ik) (es cs : List E) (vs : List Nat) : evA C (.comp elt tg k es cs vs) ρ = (evE C (.comp elt tg k es cs vs) ρ).bd fun d ρ1 => .ok (.val d) ρ1 := by rw [evA] <;> first | rfl | (intros; contradiction) | skip
@[scoped simp] theorem evT_comp (elt : E) (tg : Tg) (k : Ik) (es cs : List E) (vs : List Nat) : evT C (.comp elt tg k es cs vs) ρ = (evE C (.comp elt tg k es cs vs) ρ).bd fun d ρ1 => match truthy d with
    | some b => .ok b ρ1
    | none => .er "truth" := by rw [evT] <;> first | rfl | (intros; contradiction)
@[scoped simp] theorem evA_comp2 (elt : E) (tg : Tg) (k : Ik) (es cs : List E) (tg1 : Tg) (k1 : Ik) (es1 cs1 : List E) (vs vs1 : List Nat) : evA C (.comp2 elt tg k es cs tg1 k1 es1 cs1 vs vs1) ρ = (evE C (.comp2 elt tg k es cs tg1 k1 es1 cs1 vs vs1) ρ).bd fun d ρ1 => .ok (.val d) ρ1 := by rw [evA] <;> first | rfl | (intros; contradiction) | skip
@[scoped simp] theorem evT_comp2 (elt : E) (tg : Tg) (k : Ik) (es cs : List E) (tg1 : Tg) (k1 : Ik) (es1 cs1 : List E) (vs vs1 : List Nat) : evT C (.comp2 elt tg k es cs tg1 k1 es1 cs1 vs vs1) ρ = (evE C (.comp2 elt tg k es cs tg1 k1 es1 cs1 vs vs1) ρ).bd fun d ρ1 => match truthy d with
    | some b => .ok b ρ1
    | none => .er "truth" := by rw [evT] <;> first | rfl | (intros; contradiction)
@[scoped simp] theorem evA_dcomp (ek ev : E) (tg : Tg) (k : Ik) (es cs : List E) (vs : List Nat) : evA C (.dcomp ek ev tg k es cs vs) ρ = (evE C (.dcomp ek ev tg k es cs vs) ρ).bd fun d ρ1 => .ok (.val d) ρ1 := by rw [evA] <;> first | rfl | (intros; contradiction) | skip
@[scoped simp] theorem evT_dcomp (ek ev : E) (tg : Tg) (k : Ik) (es cs : List E) (vs : List Nat) : evT C (.dcomp ek ev tg k es cs vs) ρ = (evE C (.dcomp ek ev tg k es cs vs) ρ).bd fun d ρ1 => match truthy d with
    | some b => .ok b ρ1
    | none => .er "truth" := by rw [evT] <;> first | rfl | (intros; contradiction)
@[scoped simp] theorem evT_var (i : Nat) : evT C (.var i) ρ = (evE C (.var i) ρ).bd fun d ρ1 => match truthy d with
    | some b => .ok b ρ1
    | none => .er "truth" := by rw [evT] <;> first | rfl | (intros; contradiction)
@[scoped simp] theorem evC_nil : evC C [] ρ = .ok true ρ := by first | (rw [evC]; done) | (rw [evC]; rfl)
@[scoped simp] theorem evC_one (c : E) : evC C [c] ρ = evT C c ρ := by first | (rw [evC]; done) | (rw [evC]; rfl)
@[scoped simp] theorem evEs_nil : evEs C [] ρ = .ok [] ρ := by first | (rw [evEs]; done) | (rw [evEs]; rfl)
@[scoped simp] theorem evEs_cons (e : E) (es : List E) : evEs C (e :: es) ρ = (evE C e ρ).bd fun d ρ1 => (evEs C es ρ1).bd fun ds ρ2 => .ok (d :: ds) ρ2 := by first | (rw [evEs]; done) | (rw [evEs]; rfl)
@[scoped simp] theorem evAs_nil : evAs C [] ρ = .ok [] ρ := by first | (rw [evAs]; done) | (rw [evAs]; rfl)
@[scoped simp] theorem evAs_cons (e : E) (es : List E) : evAs C (e :: es) ρ = (evA C e ρ).bd fun d ρ1 => (evAs C es ρ1).bd fun ds ρ2 => .ok (d :: ds) ρ2 := by first | (rw [evAs]; done) | (rw [evAs]; rfl)
end
end JK.JKS

end
section
set_option linter.all false
set_option autoImplicit false
set_option maxRecDepth 100000
/-! JkSym2: statements, calls, comprehensions, operators by simp. -/
namespace JK.JKS
open PySem PySem.W PyProof.Rows
section
variable (C : Cfg) (n : Nat) (io : List Nat) (ff : Bool) (ρ : Ev)
@[scoped simp] theorem evSs_nil : evSs C n io ff [] ρ = .nx ρ := by rw [evSs]
theorem evSs_cons (s : S) (r : List S) : evSs C n io ff (s :: r) ρ = match evS C n io ff s ρ with
    | .nx ρ1 => evSs C n io ff r ρ1
    | o => o := by first | (rw [evSs]; done) | (rw [evSs]; rfl)
/-- one statement behind another -/
def _root_.JK.Out.sq (o : Out) (f : Ev → Out) : Out := match o with
  | .nx ρ => f ρ
  | o => o
@[scoped simp] theorem sq_nx (f : Ev → Out) : (Out.nx ρ).sq f = f ρ := id rfl
@[scoped simp] theorem sq_rt (d : D) (f : Ev → Out) : (Out.rt d ρ).sq f = .rt d ρ := id rfl
@[scoped simp] theorem sq_ct (f : Ev → Out) : (Out.ct ρ).sq f = .ct ρ := id rfl
@[scoped simp] theorem sq_ex (c : String) (d : D) (f : Ev → Out) : (Out.ex c d ρ).sq f = .ex c d ρ := id rfl
@[scoped simp] theorem sq_er (m : String) (f : Ev → Out) : (Out.er m).sq f = .er m := id rfl
@[scoped simp] theorem evSs_cons' (s : S) (r : List S) : evSs C n io ff (s :: r) ρ = (evS C n io ff s ρ).sq (evSs C n io ff r) := by
  rw [evSs_cons]; cases evS C n io ff s ρ <;> rfl
theorem sq_ite (c : Prop) [Decidable c] (a b : Out) (f : Ev → Out) : (if c then a else b).sq f = if c then a.sq f else b.sq f := by split <;> rfl
@[scoped simp] theorem evS_expr (e : E) : evS C n io ff (.expr e) ρ = (evE C e ρ).out fun _ ρ1 => .nx ρ1 := by rw [evS]
@[scoped simp] theorem evS_app (i : Nat) (e : E) : evS C n io ff (.app i e) ρ = if !isOw ρ i then .er "append: not owned" else (evE C e ρ).out fun d ρ1 => match ρ1[i]? with
    | some (.ow (.list xs)) => if lenOk xs then .nx (ρ1.set i (.ow (.list (xs ++ [d])))) else .er "append long"
    | _ => .er "append: not owned" := by first | (rw [evS]; done) | (rw [evS]; rfl)
@[scoped simp] theorem evS_ext (i : Nat) (e : E) : evS C n io ff (.ext i e) ρ = if !isOw ρ i then .er "extend: not owned" else (evE C e ρ).out fun d ρ1 => match ρ1[i]?, d with
    | some (.ow (.list xs)), .list ys => if lenOk (xs ++ ys) then .nx (ρ1.set i (.ow (.list (xs ++ ys)))) else .er "extend long"
    | _, _ => .er "extend" := by first | (rw [evS]; done) | (rw [evS]; rfl)
@[scoped simp] theorem evS_asg (i : Nat) (e : E) : evS C n io ff (.asg i e) ρ = (evE C e ρ).out fun d ρ1 => .nx (ρ1.set i (.sh d)) := by rw [evS]
@[scoped simp] theorem evS_own (i : Nat) (e : E) : evS C n io ff (.own i e) ρ = if freshE C.ff e then (evE C e ρ).out fun d ρ1 => if isLst d then .nx (ρ1.set i (.ow d)) else .er "own: no list" else .er "not fresh" := by rw [evS]
@[scoped simp] theorem evS_asgT (is : List Nat) (e : E) : evS C n io ff (.asgT is e) ρ = (evE C e ρ).out fun d ρ1 => match d with
    | .tuple ds => (match setAll ρ1 is ds with
      | some ρ2 => .nx ρ2
      | none => .er "unpack")
    | _ => .er "unpack" := by first | (rw [evS]; done) | (rw [evS]; rfl)
@[scoped simp] theorem evS_par (is : List (Nat × Bool)) (es : List E) : evS C n io ff (.par is es) ρ = if (is.zip es).all (fun p => !p.1.2 || freshE C.ff p.2) then (evEs C es ρ).out fun ds ρ1 => (match parS ρ1 is ds with
      | some ρ2 => .nx ρ2
      | none => .er "par") else .er "par: not fresh" := by first | (rw [evS]; done) | (rw [evS]; rfl)
@[scoped simp] theorem evS_seti (i : Nat) (a b : E) : evS C n io ff (.seti i a b) ρ = (evE C b ρ).out fun d ρ1 => if !isOw ρ1 i then .er "store: not owned" else (evE C a ρ1).out fun k ρ2 => match ρ2[i]?, k with
    | some (.ow (.list xs)), .int j => (match ixN xs.length j with
      | some m => .nx (ρ2.set i (.ow (.list (xs.set m d))))
      | none => .er "store index")
    | some (.ow (.dict kvs)), k => if lenOk kvs && shap 30 k then .nx (ρ2.set i (.ow (.dict (dput k d kvs)))) else .er "dict long"
    | _, _ => .er "store" := by first | (rw [evS]; done) | (rw [evS]; rfl)
@[scoped simp] theorem evS_aug (i : Nat) (o : Op) (e : E) : evS C n io ff (.aug i o e) ρ = match ρ[i]? with
    | some (.sh (.int x)) => (evE C e ρ).out fun d ρ1 => (match d with
      | .int y => (lift (opD o (.int x) (.int y)) ρ1).out fun z ρ2 => .nx (ρ2.set i (.sh z))
      | _ => .er "aug")
    | _ => .er "aug" := by first | (rw [evS]; done) | (rw [evS]; rfl)
@[scoped simp] theorem evS_augs (i : Nat) (a : E) (o : Op) (e : E) : evS C n io ff (.augs i a o e) ρ = if !isOw ρ i then .er "augs" else (evE C a ρ).out fun k ρ1 => match ρ1[i]?, k with
    | some (.ow (.list xs)), .int j => if 0 ≤ j then (match xs[j.toNat]? with
      | some (.int x) => (evE C e ρ1).out fun y ρ2 => (match ρ2[i]?, y with
        | some (.ow (.list ys)), .int y => if j.toNat < ys.length then (lift (opD o (.int x) (.int y)) ρ2).out fun z ρ3 => .nx (ρ3.set i (.ow (.list (ys.set j.toNat z)))) else .er "augs"
        | _, _ => .er "augs")
      | _ => .er "augs") else .er "augs"
    | _, _ => .er "augs" := by first | (rw [evS]; done) | (rw [evS]; rfl)
@[scoped simp] theorem evS_ret (e : E) : evS C n io ff (.ret e) ρ = (evA C e ρ).out fun a ρ1 => match a with
    | .val d => if !ff || (freshE C.ff e && isLst d) then .rt d ρ1 else .er "result not fresh"
    | .bor i => (match ρ1[i]? with
      | some (.ow d) => if io.contains i then .er "a handed list given back" else .rt d ρ1
      | some (.sh d) => if ff then .er "result not fresh" else .rt d ρ1
      | _ => .er "ret") := by first | (rw [evS]; done) | (rw [evS]; rfl)
@[scoped simp] theorem evS_ret0 : evS C n io ff .ret0 ρ = if ff then .er "result not fresh" else .rt .none ρ := by rw [evS]
@[scoped simp] theorem evS_ifs (c : E) (a b : List S) : evS C n io ff (.ifs c a b) ρ = (evT C c ρ).out fun k ρ1 => if k then evSs C n io ff a ρ1 else evSs C n io ff b ρ1 := by rw [evS]
@[scoped simp] theorem evS_whl (c : E) (b : List S) : evS C n io ff (.whl c b) ρ = whlL (evT C c) (evSs C n io ff b) n ρ := by rw [evS]
@[scoped simp] theorem evS_for (tg : Tg) (k : Ik) (es : List E) (b : List S) : evS C n io ff (.for_ tg k es b) ρ = (evAs C es ρ).out fun as ρ1 => match rsAll ρ1 as with
    | some ds => if borIn (tgS tg ++ asgSs b) as then .er "the walked list is stored anew" else (lift (itemsD k ds) ρ1).out fun items _ => forL tg (evSs C n io ff b) (fun ρ' => sameD (rsAll ρ' as) (some ds)) items ρ1
    | none => .er "unresolved" := by first | (rw [evS]; done) | (rw [evS]; rfl)
@[scoped simp] theorem evS_raise (c : String) (es : List E) : evS C n io ff (.raise c es) ρ = (evEs C es ρ).out fun ds ρ1 => match ds with
    | [] => .ex c .none ρ1
    | [d] => .ex c d ρ1
    | _ => .er "raise" := by first | (rw [evS]; done) | (rw [evS]; rfl)
@[scoped simp] theorem evS_tri (b : List S) (hs : List (String × Option Nat × List S)) : evS C n io ff (.tri b hs) ρ = match evSs C n io ff b ρ with
    | .ex c d ρ1 => evH C n io ff hs c d ρ1
    | o => o := by first | (rw [evS]; done) | (rw [evS]; rfl)
@[scoped simp] theorem evS_cnt : evS C n io ff .cnt ρ = .ct ρ := by rw [evS]
@[scoped simp] theorem evS_pas : evS C n io ff .pas ρ = .nx ρ := by rw [evS]
@[scoped simp] theorem evH_nil (c : String) (d : D) : evH C n io ff [] c d ρ = .ex c d ρ := by rw [evH.eq_def]
@[scoped simp] theorem evH_cons (c' : String) (i : Option Nat) (b : List S) (r : List (String × Option Nat × List S)) (c : String) (d : D) : evH C n io ff ((c', i, b) :: r) c d ρ = if c' == c then (match i with
      | none => evSs C n io ff b ρ
      | some i => if decide (i < ρ.length) then (match evSs C n io ff b (ρ.set i (.xn c d)) with
        | .nx ρ1 => .nx (ρ1.set i .un)
        | .ct ρ1 => .ct (ρ1.set i .un)
        | o => o) else .er "no slot") else evH C n io ff r c d ρ := by first | (rw [evH.eq_def]; done) | (rw [evH.eq_def]; rfl)
end
@[scoped simp] theorem slots0_nil (io : List Nat) (i : Nat) : slots0 io i [] = [] := id rfl
@[scoped simp] theorem slots0_cons (io : List Nat) (i : Nat) (d : D) (r : List D) : slots0 io i (d :: r) = (if io.contains i then .ow d else .sh d) :: slots0 io (i + 1) r := id rfl
@[scoped simp] theorem outIo_nil (ρ : Ev) : outIo ρ [] = some [] := id rfl
@[scoped simp] theorem outIo_cons (ρ : Ev) (i : Nat) (r : List Nat) : outIo ρ (i :: r) = match ρ[i]? with
  | some (.ow d) => (outIo ρ r).map (d :: ·)
  | _ => none := id rfl
@[scoped simp] theorem finC_rt0 (ff : Bool) (d : D) (ρ : Ev) : finC ff [] (.rt d ρ) = .ok d [] := id rfl
@[scoped simp] theorem finC_rt (ff : Bool) (io : List Nat) (d : D) (ρ : Ev) : finC ff io (.rt d ρ) = match outIo ρ io with
    | some ios => .ok d ios
    | none => .er "a handed list is lost" := id rfl
@[scoped simp] theorem finC_ex (ff : Bool) (io : List Nat) (c : String) (d : D) (ρ : Ev) : finC ff io (.ex c d ρ) = match outIo ρ io with
    | some ios => .ex c d ios
    | none => .er "a handed list is lost" := id rfl
@[scoped simp] theorem finC_nx (ff : Bool) (io : List Nat) (ρ : Ev) : finC ff io (.nx ρ) = if ff then .er "result not fresh" else match outIo ρ io with
    | some ios => .ok .none ios
    | none => .er "a handed list is lost" := id rfl
/-- a call's end, with the def's name ahead of an error -/
def wrapC (f : String) (r : Rc) : Rc := match r with
  | .er m => .er s!"{f}: {m}"
  | r => r
@[scoped simp] theorem wrapC_ok (f : String) (d : D) (ios : List D) : wrapC f (.ok d ios) = .ok d ios := id rfl
@[scoped simp] theorem wrapC_ex (f : String) (c : String) (d : D) (ios : List D) : wrapC f (.ex c d ios) = .ex c d ios := id rfl
theorem callP_s {p : Pg} {n k : Nat} {f : String} {args : List D} {df : Df} (h : p.defs f = some df) : callP p n (k + 1) f args = wrapC f (bodyC ⟨callP p n k, p.G, p.io, p.ff⟩ n df args) := by
  rw [callP, h]
  rfl
theorem Pio {p : Pg} {f : String} {df : Df} (h : p.defs f = some df) : p.io f = df.io := by simp [Pg.io, h]
theorem Pff {p : Pg} {f : String} {df : Df} (h : p.defs f = some df) : p.ff f = df.ff := by simp [Pg.ff, h]

/-! ### values -/
@[scoped simp] theorem eqvB_int (i : Int) : eqvB (.int i) (.int i) = true := by simp [eqvB]
mutual
theorem eqvB_self : ∀ (d : D) (n : Nat), shap n d = true → eqvB d d = true
  | .none, _, _ => rfl
  | .bool b, _, _ => by simp [eqvB]
  | .int b, _, _ => by simp [eqvB]
  | .str b, _, _ => by simp [eqvB]
  | .list b, 0, h => by simp [shap] at h
  | .list b, n + 1, h => by
    simp only [eqvB]
    exact eqvBs_self b n (by simpa [shap] using h)
  | .tuple b, 0, h => by simp [shap] at h
  | .tuple b, n + 1, h => by
    simp only [eqvB]
    exact eqvBs_self b n (by simpa [shap] using h)
  | .dict b, n, h => by simp [shap] at h
theorem eqvBs_self : ∀ (d : List D) (n : Nat), shaps n d = true → eqvBs d d = true
  | [], _, _ => rfl
  | x :: xs, n, h => by
    simp only [shaps, Bool.and_eq_true] at h
    simp only [eqvBs, Bool.and_eq_true]
    exact ⟨eqvB_self x n h.1, eqvBs_self xs n h.2⟩
end
@[scoped simp] theorem shap_none (n : Nat) : shap n .none = true := by simp [shap]
@[scoped simp] theorem shap_int (n : Nat) (i : Int) : shap n (.int i) = true := by simp [shap]
@[scoped simp] theorem shap_bool (n : Nat) (i : Bool) : shap n (.bool i) = true := by simp [shap]
@[scoped simp] theorem shap_list (n : Nat) (xs : List D) : shap (n + 1) (.list xs) = shaps n xs := by simp [shap]
@[scoped simp] theorem shap_tuple (n : Nat) (xs : List D) : shap (n + 1) (.tuple xs) = shaps n xs := by simp [shap]
@[scoped simp] theorem shaps_nil (n : Nat) : shaps n [] = true := by simp [shaps]
@[scoped simp] theorem shaps_cons (n : Nat) (x : D) (xs : List D) : shaps n (x :: xs) = (shap n x && shaps n xs) := by simp [shaps]
@[scoped simp] theorem shaps_app (n : Nat) : ∀ xs ys : List D, shaps n (xs ++ ys) = (shaps n xs && shaps n ys)
  | [], ys => by simp
  | x :: xs, ys => by simp [shaps_app n xs ys, Bool.and_assoc]
theorem shaps_iff {n : Nat} : ∀ {xs : List D}, shaps n xs = true ↔ ∀ x ∈ xs, shap n x = true
  | [] => by simp
  | x :: xs => by simp [shaps_iff (n := n) (xs := xs)]
theorem shaps_all (n : Nat) : ∀ xs : List D, shaps n xs = xs.all (shap n)
  | [] => rfl
  | x :: xs => by simp [shaps_all n xs]
@[scoped simp] theorem shaps_map {α : Type} (n : Nat) (f : α → D) : ∀ xs : List α, shaps n (xs.map f) = xs.all fun a => shap n (f a)
  | [] => by simp
  | x :: xs => by simp [shaps_map n f xs]
@[scoped simp] theorem sameD_some (ds : List D) (h : shaps 100 ds = true) : sameD (some ds) (some ds) = true := eqvBs_self ds 100 h

/-! ### comprehensions -/
instance : Inhabited D := ⟨.none⟩
def _root_.JK.R.v {α : Type} [Inhabited α] : R α → α
  | .ok a _ => a
  | _ => default
@[scoped simp] theorem v_ok {α : Type} [Inhabited α] (a : α) (ρ : Ev) : (R.ok a ρ).v = a := id rfl
def bindV (tg : Tg) (d : D) (ρ : Ev) : Ev := (bindT tg d ρ).getD ρ
@[scoped simp] theorem bindV_nm (i : Nat) (d : D) (ρ : Ev) : bindV (.nm i) d ρ = ρ.set i (.sh d) := id rfl
@[scoped simp] theorem bindV_tp (is : List Nat) (ds : List D) (ρ : Ev) : bindV (.tp is) (.tuple ds) ρ = (setAll ρ is ds).getD ρ := id rfl
theorem compE_go {α β : Type} {tg : Tg} {vs : List Nat} {cond : Ev → R Bool} {elt : Ev → R β} {still : Ev → Bool} {g : α → D} {ρ : Ev} {q : α → Bool} {f : α → β} : ∀ {xs : List α},
    (∀ a ∈ xs, ∃ ρ2, bindT tg (g a) ρ = some ρ2 ∧ cond ρ2 = .ok (q a) ρ2 ∧ (q a = true → elt ρ2 = .ok (f a) ρ2) ∧ still ρ2 = true ∧ wipeS ρ2 vs = ρ) →
    compL tg vs cond elt still (xs.map g) ρ = .ok ((xs.filter q).map f) ρ
  | [], _ => rfl
  | a :: xs, h => by
    obtain ⟨ρ2, h1, h2, h3, h4, h5⟩ := h a (by simp)
    have ih := compE_go (xs := xs) (fun b hb => h b (by simp [hb]))
    rw [List.map_cons, compL, h1]
    simp only [h2, bd_ok]
    by_cases e : q a = true
    · simp only [e, if_true, h3 e, bd_ok, h4, h5, ih, List.filter_cons_of_pos, List.map_cons]
    · have e : q a = false := by simpa using e
      simp [e, h4, h5, ih]
theorem compE_eq {α β : Type} {tg : Tg} {vs : List Nat} {as : List Arg} {ds : List D} {cond : Ev → R Bool} {elt : Ev → R β} {g : α → D} {ρ : Ev} {xs : List α} (q : α → Bool) (f : α → β)
    (h0 : vs.any (isOw ρ) = false) (h1 : borIn vs as = false) (hb : backS ρ (wipeS ρ vs) vs = ρ)
    (hx : ∀ a ∈ xs, ∃ ρ2, bindT tg (g a) (wipeS ρ vs) = some ρ2 ∧ cond ρ2 = .ok (q a) ρ2 ∧ (q a = true → elt ρ2 = .ok (f a) ρ2) ∧ sameD (rsAll ρ2 as) (some ds) = true ∧ wipeS ρ2 vs = wipeS ρ vs) :
    compE tg vs as ds cond elt (xs.map g) ρ = .ok ((xs.filter q).map f) ρ := by
  unfold compE
  simp only [h0, h1, Bool.or_self, Bool.false_eq_true, if_false]
  rw [compE_go hx]
  simp [hb]
def okU {α : Type} (r : R α) (ρ : Ev) : Prop := match r with
  | .ok _ ρ' => ρ' = ρ
  | _ => False
@[scoped simp] theorem okU_ok {α : Type} (a : α) (ρ ρ' : Ev) : okU (.ok a ρ') ρ ↔ ρ' = ρ := Iff.rfl
theorem okU_v {α : Type} [Inhabited α] {r : R α} {ρ : Ev} (h : okU r ρ) : r = .ok r.v ρ := by
  cases r with
  | ok a ρ' => cases h; rfl
  | ex => cases h
  | er => cases h
def ItemOk {β : Type} (tg : Tg) (vs : List Nat) (as : List Arg) (ds : List D) (cond : Ev → R Bool) (elt : Ev → R β) (d : D) (ρ : Ev) : Prop :=
  match bindT tg d (wipeS ρ vs) with
  | some ρ2 => okU (cond ρ2) ρ2 ∧ ((cond ρ2).v = true → okU (elt ρ2) ρ2) ∧ sameD (rsAll ρ2 as) (some ds) = true ∧ wipeS ρ2 vs = wipeS ρ vs
  | none => False
@[scoped simp] theorem itemOk_def {β : Type} (tg : Tg) (vs : List Nat) (as : List Arg) (ds : List D) (cond : Ev → R Bool) (elt : Ev → R β) (d : D) (ρ : Ev) : ItemOk tg vs as ds cond elt d ρ ↔
  match bindT tg d (wipeS ρ vs) with
  | some ρ2 => okU (cond ρ2) ρ2 ∧ ((cond ρ2).v = true → okU (elt ρ2) ρ2) ∧ sameD (rsAll ρ2 as) (some ds) = true ∧ wipeS ρ2 vs = wipeS ρ vs
  | none => False := Iff.rfl
@[scoped simp] theorem compE_simp {α β : Type} [Inhabited β] (tg : Tg) (vs : List Nat) (as : List Arg) (ds : List D) (cond : Ev → R Bool) (elt : Ev → R β) (g : α → D) (ρ : Ev) (xs : List α)
    (h0 : vs.any (isOw ρ) = false) (h1 : borIn vs as = false) (hb : backS ρ (wipeS ρ vs) vs = ρ) (hx : ∀ a ∈ xs, ItemOk tg vs as ds cond elt (g a) ρ) :
    compE tg vs as ds cond elt (xs.map g) ρ = .ok ((xs.filter fun a => (cond (bindV tg (g a) (wipeS ρ vs))).v).map fun a => (elt (bindV tg (g a) (wipeS ρ vs))).v) ρ := by
  refine compE_eq _ _ h0 h1 hb fun a ha => ?_
  have h := hx a ha
  unfold ItemOk at h
  split at h
  · rename_i ρ2 h2
    have e : bindV tg (g a) (wipeS ρ vs) = ρ2 := by simp [bindV, h2]
    rw [e]
    exact ⟨ρ2, h2, okU_v h.1, fun z => okU_v (h.2.1 z), h.2.2⟩
  · cases h

def ItemOkL {β : Type} (tg : Tg) (vs : List Nat) (cond : Ev → R Bool) (elt : Ev → R β) (still : Ev → Bool) (d : D) (ρ : Ev) : Prop :=
  match bindT tg d ρ with
  | some ρ2 => okU (cond ρ2) ρ2 ∧ ((cond ρ2).v = true → okU (elt ρ2) ρ2) ∧ still ρ2 = true ∧ wipeS ρ2 vs = ρ
  | none => False
@[scoped simp] theorem itemOkL_def {β : Type} (tg : Tg) (vs : List Nat) (cond : Ev → R Bool) (elt : Ev → R β) (still : Ev → Bool) (d : D) (ρ : Ev) : ItemOkL tg vs cond elt still d ρ ↔
  match bindT tg d ρ with
  | some ρ2 => okU (cond ρ2) ρ2 ∧ ((cond ρ2).v = true → okU (elt ρ2) ρ2) ∧ still ρ2 = true ∧ wipeS ρ2 vs = ρ
  | none => False := Iff.rfl
@[scoped simp] theorem compL_simp {α β : Type} [Inhabited β] (tg : Tg) (vs : List Nat) (cond : Ev → R Bool) (elt : Ev → R β) (still : Ev → Bool) (g : α → D) (ρ : Ev) (xs : List α) (hx : ∀ a ∈ xs, ItemOkL tg vs cond elt still (g a) ρ) :
    compL tg vs cond elt still (xs.map g) ρ = .ok ((xs.filter fun a => (cond (bindV tg (g a) ρ)).v).map fun a => (elt (bindV tg (g a) ρ)).v) ρ := by
  refine compE_go fun a ha => ?_
  have h := hx a ha
  unfold ItemOkL at h
  split at h
  · rename_i ρ2 h2
    have e : bindV tg (g a) ρ = ρ2 := by simp [bindV, h2]
    rw [e]
    exact ⟨ρ2, h2, okU_v h.1, fun z => okU_v (h.2.1 z), h.2.2⟩
  · cases h
/-- what the inner walk of a comprehension of two makes -/
def innE (C : Cfg) (elt : E) (tg1 : Tg) (k1 : Ik) (es1 cs1 : List E) (vs1 : List Nat) (ρ' : Ev) : R (List D) :=
  (evAs C es1 ρ').bd fun as1 ρ2 => withA as1 ρ2 fun ds1 => (lift (itemsD k1 ds1) ρ2).bd fun items1 _ =>
    if borIn vs1 as1 then .er "the walked name is stored anew" else compL tg1 vs1 (evC C cs1) (evE C elt) (fun ρ'' => sameD (rsAll ρ'' as1) (some ds1)) items1 (wipeS ρ2 vs1)
@[scoped simp] theorem innE_def (C : Cfg) (elt : E) (tg1 : Tg) (k1 : Ik) (es1 cs1 : List E) (vs1 : List Nat) (ρ' : Ev) : innE C elt tg1 k1 es1 cs1 vs1 ρ' =
  (evAs C es1 ρ').bd fun as1 ρ2 => withA as1 ρ2 fun ds1 => (lift (itemsD k1 ds1) ρ2).bd fun items1 _ =>
    if borIn vs1 as1 then .er "the walked name is stored anew" else compL tg1 vs1 (evC C cs1) (evE C elt) (fun ρ'' => sameD (rsAll ρ'' as1) (some ds1)) items1 (wipeS ρ2 vs1) := id rfl
theorem bd_noEx2 {α : Type} (r : R α) (f : α → D) (ok : α → Bool) (m : String) (g : Ev → Ev) : noEx (r.bd fun xs ρ2 => if ok xs then .ok (f xs) (g ρ2) else .er m) = (noEx (r.bd fun xs ρ2 => .ok xs (g ρ2))).bd fun xs ρ3 => if ok xs then .ok (f xs) ρ3 else .er m := by
  cases r with
  | ok a ρ => show noEx (if ok a then _ else _) = (if ok a then _ else _); split <;> rfl
  | ex => rfl
  | er => rfl
@[scoped simp] theorem evE_comp2 (C : Cfg) (ρ : Ev) (elt : E) (tg : Tg) (k : Ik) (es cs : List E) (tg1 : Tg) (k1 : Ik) (es1 cs1 : List E) (vs vs1 : List Nat) : evE C (.comp2 elt tg k es cs tg1 k1 es1 cs1 vs vs1) ρ = (evAs C es ρ).bd fun as ρ1 => withA as ρ1 fun ds => (lift (itemsD k ds) ρ1).bd fun items _ =>
    (compE tg vs as ds (evC C cs) (innE C elt tg1 k1 es1 cs1 vs1) items ρ1).bd fun xs ρ3 => if lenOk xs.flatten then .ok (.list xs.flatten) ρ3 else .er "comp2 long" := by
  rw [evE]
  congr; funext as ρ1; congr; funext ds; congr; funext items _
  unfold compE
  split
  · rfl
  · exact bd_noEx2 _ _ (fun xs : List (List D) => lenOk xs.flatten) _ _

/-! ### operators on values -/
@[scoped simp] theorem op_add (i j : Int) : opD .add (.int i) (.int j) = .ok (.int (i + j)) := by simp [opD]
@[scoped simp] theorem op_sub (i j : Int) : opD .sub (.int i) (.int j) = .ok (.int (i - j)) := by simp [opD]
@[scoped simp] theorem op_mulc (i : Int) : opD .mul (.int i) (.int 48271) = .ok (.int (i * 48271)) := by
  have : smallI 48271 = true := by decide
  simp only [opD, this, Bool.or_true, if_true]
theorem op_mul {i j : Int} (h : (smallI i || smallI j) = true) : opD .mul (.int i) (.int j) = .ok (.int (i * j)) := by simp only [opD, h, if_true]
@[scoped simp] theorem op_fdiv {i j : Int} (h : 0 < j) (h' : j < 1073741824) : opD .fdiv (.int i) (.int j) = .ok (.int (i / j)) := by simp [opD, h, h']
@[scoped simp] theorem op_mod {i j : Int} (h : 0 < j) : opD .mod (.int i) (.int j) = .ok (.int (i % j)) := by simp [opD, h]
@[scoped simp] theorem op_band (i j : Int) : opD .band (.int i) (.int j) = .ok (.int (Builtin.bitAnd i j)) := by simp [opD]
@[scoped simp] theorem op_bor (i j : Int) : opD .bor (.int i) (.int j) = .ok (.int (Builtin.bitOr i j)) := by simp [opD]
@[scoped simp] theorem op_bxor (i j : Int) : opD .bxor (.int i) (.int j) = .ok (.int (Builtin.bitXor i j)) := by simp [opD]
@[scoped simp] theorem op_addL (xs ys : List D) (h : lenOk (xs ++ ys) = true) : opD .add (.list xs) (.list ys) = .ok (.list (xs ++ ys)) := by simp [opD, h]
@[scoped simp] theorem op_addT (xs ys : List D) (h : lenOk (xs ++ ys) = true) : opD .add (.tuple xs) (.tuple ys) = .ok (.tuple (xs ++ ys)) := by simp [opD, h]
@[scoped simp] theorem band_nn {a b : Int} (ha : 0 ≤ a) (hb : 0 ≤ b) : Builtin.bitAnd a b = ((a.toNat &&& b.toNat : Nat) : Int) := bitAnd_pp ha hb
@[scoped simp] theorem bor_nn {a b : Int} (ha : 0 ≤ a) (hb : 0 ≤ b) : Builtin.bitOr a b = ((a.toNat ||| b.toNat : Nat) : Int) := Bits.bitOr_pp ha hb
@[scoped simp] theorem bxor_nn {a b : Int} (ha : 0 ≤ a) (hb : 0 ≤ b) : Builtin.bitXor a b = ((a.toNat ^^^ b.toNat : Nat) : Int) := Bits.bitXor_pp ha hb
theorem shr_nat (a k : Nat) : (a : Int) / 2 ^ k = ((a >>> k : Nat) : Int) := by
  rw [Nat.shiftRight_eq_div_pow]; simp
@[scoped simp] theorem op_shr (a k : Int) (ha : 0 ≤ a) (hk : 0 ≤ k) : opD .shr (.int a) (.int k) = .ok (.int ((a.toNat >>> k.toNat : Nat) : Int)) := by
  simp only [opD]
  rw [if_pos (by simpa using hk)]
  obtain ⟨n, rfl⟩ := Int.eq_ofNat_of_zero_le ha
  rw [Int.toNat_natCast, shr_nat]
@[scoped simp] theorem op_shl1 (k : Int) (h0 : 0 ≤ k) (h : k ≤ 1000000) : opD .shl (.int 1) (.int k) = .ok (.int ((2 ^ k.toNat : Nat) : Int)) := by
  simp only [opD]
  rw [if_pos]
  · simp
  · simp
    omega
@[scoped simp] theorem beq_nat (a b : Nat) : ((a : Int) == (b : Int)) = (a == b) := by
  rw [Bool.eq_iff_iff, beq_iff_eq, beq_iff_eq]
  omega
@[scoped simp] theorem beq_lit (a k : Nat) : ((a : Int) == (no_index (OfNat.ofNat k) : Int)) = (a == (OfNat.ofNat k : Nat)) := by
  have : (OfNat.ofNat k : Int) = ((OfNat.ofNat k : Nat) : Int) := id rfl
  rw [this, beq_nat]
@[scoped simp] theorem lit_beq (a k : Nat) : ((no_index (OfNat.ofNat k) : Int) == (a : Int)) = ((OfNat.ofNat k : Nat) == a) := by
  have : (OfNat.ofNat k : Int) = ((OfNat.ofNat k : Nat) : Int) := id rfl
  rw [this, beq_nat]
@[scoped simp] theorem lt_lit (a k : Nat) : ((a : Int) < (no_index (OfNat.ofNat k) : Int)) = (a < (OfNat.ofNat k : Nat)) := by
  have : (OfNat.ofNat k : Int) = ((OfNat.ofNat k : Nat) : Int) := id rfl
  rw [this]; exact propext Int.ofNat_lt
@[scoped simp] theorem lit_lt (a k : Nat) : ((no_index (OfNat.ofNat k) : Int) < (a : Int)) = ((OfNat.ofNat k : Nat) < a) := by
  have : (OfNat.ofNat k : Int) = ((OfNat.ofNat k : Nat) : Int) := id rfl
  rw [this]; exact propext Int.ofNat_lt
@[scoped simp] theorem le_lit (a k : Nat) : ((a : Int) ≤ (no_index (OfNat.ofNat k) : Int)) = (a ≤ (OfNat.ofNat k : Nat)) := by
  have : (OfNat.ofNat k : Int) = ((OfNat.ofNat k : Nat) : Int) := id rfl
  rw [this]; exact propext Int.ofNat_le
@[scoped simp] theorem lit_le (a k : Nat) : ((no_index (OfNat.ofNat k) : Int) ≤ (a : Int)) = ((OfNat.ofNat k : Nat) ≤ a) := by
  have : (OfNat.ofNat k : Int) = ((OfNat.ofNat k : Nat) : Int) := id rfl
  rw [this]; exact propext Int.ofNat_le
@[scoped simp] theorem eq_lit (a k : Nat) : ((a : Int) = (no_index (OfNat.ofNat k) : Int)) = (a = (OfNat.ofNat k : Nat)) := by
  have : (OfNat.ofNat k : Int) = ((OfNat.ofNat k : Nat) : Int) := id rfl
  rw [this]; exact propext Int.ofNat_inj
@[scoped simp] theorem lt_nat (a b : Nat) : ((a : Int) < (b : Int)) = (a < b) := propext Int.ofNat_lt
@[scoped simp] theorem le_nat (a b : Nat) : ((a : Int) ≤ (b : Int)) = (a ≤ b) := propext Int.ofNat_le
@[scoped simp] theorem eq_nat (a b : Nat) : ((a : Int) = (b : Int)) = (a = b) := propext Int.ofNat_inj
end JK.JKS

end
section
set_option linter.all false
set_option autoImplicit false
set_option maxRecDepth 100000
/-! JkSym3: comparisons, builtins, items by simp. -/
namespace JK.JKS
open PySem PySem.W PyProof.Rows
@[scoped simp] theorem eqv_ii (i j : Int) : PyData.eqv (.int i) (.int j) = (i == j) := by simp [PyData.eqv]
@[scoped simp] theorem eqv_bb (i j : Bool) : PyData.eqv (.bool i) (.bool j) = (i == j) := by simp [PyData.eqv]
@[scoped simp] theorem eqv_bi (a : Bool) (j : Int) : PyData.eqv (.bool a) (.int j) = ((if a then 1 else 0) == j) := by simp [PyData.eqv]
@[scoped simp] theorem eqv_ib (a : Bool) (j : Int) : PyData.eqv (.int j) (.bool a) = (j == (if a then 1 else 0)) := by simp [PyData.eqv]
@[scoped simp] theorem eqv_ss (i j : Str) : PyData.eqv (.str i) (.str j) = (i == j) := by simp [PyData.eqv]
@[scoped simp] theorem eqv_nn : PyData.eqv .none .none = true := by simp [PyData.eqv]
@[scoped simp] theorem eqv_ni (i : Int) : PyData.eqv .none (.int i) = false := by simp [PyData.eqv]
@[scoped simp] theorem eqv_in (i : Int) : PyData.eqv (.int i) .none = false := by simp [PyData.eqv]
@[scoped simp] theorem eqv_nl (i : List D) : PyData.eqv .none (.list i) = false := by simp [PyData.eqv]
@[scoped simp] theorem eqv_nt (i : List D) : PyData.eqv .none (.tuple i) = false := by simp [PyData.eqv]
@[scoped simp] theorem eqv_tn (i : List D) : PyData.eqv (.tuple i) .none = false := by simp [PyData.eqv]
@[scoped simp] theorem eqv_ln (i : List D) : PyData.eqv (.list i) .none = false := by simp [PyData.eqv]
@[scoped simp] theorem eqv_ns (i : Str) : PyData.eqv .none (.str i) = false := by simp [PyData.eqv]
@[scoped simp] theorem eqv_sn (i : Str) : PyData.eqv (.str i) .none = false := by simp [PyData.eqv]
@[scoped simp] theorem eqv_nb (i : Bool) : PyData.eqv .none (.bool i) = false := by simp [PyData.eqv]
@[scoped simp] theorem eqv_bn (i : Bool) : PyData.eqv (.bool i) .none = false := by simp [PyData.eqv]
@[scoped simp] theorem eqv_is (i : Int) (s : Str) : PyData.eqv (.int i) (.str s) = false := by simp [PyData.eqv]
@[scoped simp] theorem eqv_si (i : Int) (s : Str) : PyData.eqv (.str s) (.int i) = false := by simp [PyData.eqv]
@[scoped simp] theorem eqv_it (i : Int) (s : List D) : PyData.eqv (.int i) (.tuple s) = false := by simp [PyData.eqv]
@[scoped simp] theorem eqv_ti (i : Int) (s : List D) : PyData.eqv (.tuple s) (.int i) = false := by simp [PyData.eqv]
@[scoped simp] theorem eqv_il (i : Int) (s : List D) : PyData.eqv (.int i) (.list s) = false := by simp [PyData.eqv]
@[scoped simp] theorem eqv_li (i : Int) (s : List D) : PyData.eqv (.list s) (.int i) = false := by simp [PyData.eqv]
@[scoped simp] theorem eqv_ll (i j : List D) : PyData.eqv (.list i) (.list j) = PyData.eqvAll i j := by simp [PyData.eqv]
@[scoped simp] theorem eqv_tt (i j : List D) : PyData.eqv (.tuple i) (.tuple j) = PyData.eqvAll i j := by simp [PyData.eqv]
@[scoped simp] theorem eqv_lt (i j : List D) : PyData.eqv (.list i) (.tuple j) = false := by simp [PyData.eqv]
@[scoped simp] theorem eqv_tl (i j : List D) : PyData.eqv (.tuple i) (.list j) = false := by simp [PyData.eqv]
@[scoped simp] theorem eqvAll_nn : PyData.eqvAll [] [] = true := by simp [PyData.eqvAll]
@[scoped simp] theorem eqvAll_nc (x : D) (xs : List D) : PyData.eqvAll [] (x :: xs) = false := by simp [PyData.eqvAll]
@[scoped simp] theorem eqvAll_cn (x : D) (xs : List D) : PyData.eqvAll (x :: xs) [] = false := by simp [PyData.eqvAll]
@[scoped simp] theorem eqvAll_cc (x y : D) (xs ys : List D) : PyData.eqvAll (x :: xs) (y :: ys) = (PyData.eqv x y && PyData.eqvAll xs ys) := by simp [PyData.eqvAll]
@[scoped simp] theorem eqvAll_nats : ∀ xs ys : List Nat, PyData.eqvAll (xs.map fun x : Nat => .int (x : Int)) (ys.map fun x : Nat => .int (x : Int)) = decide (xs = ys)
  | [], [] => by simp
  | [], y :: ys => by simp
  | x :: xs, [] => by simp
  | x :: xs, y :: ys => by
    simp only [List.map_cons, eqvAll_cc, eqv_ii, eqvAll_nats xs ys]
    rw [Bool.eq_iff_iff]
    simp
@[scoped simp] theorem eqvAll_mnil {α : Type} (f : α → D) (xs : List α) : PyData.eqvAll (xs.map f) [] = xs.isEmpty := by cases xs <;> simp
@[scoped simp] theorem eqvAll_nilm {α : Type} (f : α → D) (xs : List α) : PyData.eqvAll [] (xs.map f) = xs.isEmpty := by cases xs <;> simp
mutual
theorem eqv_self : ∀ (d : D) (n : Nat), shap n d = true → PyData.eqv d d = true
  | .none, _, _ => by simp
  | .bool b, _, _ => by simp
  | .int b, _, _ => by simp
  | .str b, _, _ => by simp
  | .list b, 0, h => by simp [shap] at h
  | .list b, n + 1, h => by
    rw [eqv_ll]
    exact eqvAll_self b n (by simpa [shap] using h)
  | .tuple b, 0, h => by simp [shap] at h
  | .tuple b, n + 1, h => by
    rw [eqv_tt]
    exact eqvAll_self b n (by simpa [shap] using h)
  | .dict b, n, h => by simp [shap] at h
theorem eqvAll_self : ∀ (d : List D) (n : Nat), shaps n d = true → PyData.eqvAll d d = true
  | [], _, _ => by simp
  | x :: xs, n, h => by
    simp only [shaps, Bool.and_eq_true] at h
    simp only [eqvAll_cc, Bool.and_eq_true]
    exact ⟨eqv_self x n h.1, eqvAll_self xs n h.2⟩
end
@[scoped simp] theorem cmp_eq (a b : D) (h : (shap 30 a && shap 30 b) = true) : cmpD .eq a b = .ok (PyData.eqv a b) := by simp only [cmpD, h, if_true]
@[scoped simp] theorem cmp_ne (a b : D) (h : (shap 30 a && shap 30 b) = true) : cmpD .ne a b = .ok (!PyData.eqv a b) := by simp only [cmpD, h, if_true]
@[scoped simp] theorem cmp_lt (i j : Int) : cmpD .lt (.int i) (.int j) = .ok (decide (i < j)) := by simp [cmpD, ltI]
@[scoped simp] theorem cmp_le (i j : Int) : cmpD .le (.int i) (.int j) = .ok (decide (i ≤ j)) := by simp [cmpD, ltI]
@[scoped simp] theorem cmp_gt (i j : Int) : cmpD .gt (.int i) (.int j) = .ok (decide (j < i)) := by simp [cmpD, ltI]
@[scoped simp] theorem cmp_ge (i j : Int) : cmpD .ge (.int i) (.int j) = .ok (decide (j ≤ i)) := by simp [cmpD, ltI]
@[scoped simp] theorem cmp_is (a : D) : cmpD .is_ a .none = .ok (isNoneD a) := by cases a <;> simp [cmpD]
@[scoped simp] theorem cmp_isNot (a : D) : cmpD .isNot a .none = .ok (!isNoneD a) := by cases a <;> simp [cmpD]
@[scoped simp] theorem isNoneD_none : isNoneD .none = true := id rfl
@[scoped simp] theorem isNoneD_int (i : Int) : isNoneD (.int i) = false := id rfl
@[scoped simp] theorem isNoneD_tup (i : List D) : isNoneD (.tuple i) = false := id rfl
@[scoped simp] theorem cmp_isb (a b : Bool) : cmpD .is_ (.bool a) (.bool b) = .ok (a == b) := by simp [cmpD]
@[scoped simp] theorem cmp_isNotb (a b : Bool) : cmpD .isNot (.bool a) (.bool b) = .ok (!(a == b)) := by simp [cmpD]
@[scoped simp] theorem cmp_in (a b : D) : cmpD .isIn a b = inD a b := by simp [cmpD]
@[scoped simp] theorem cmp_notIn (a b : D) : cmpD .notIn a b = (inD a b).map (!·) := by simp [cmpD]
@[scoped simp] theorem exmap_ok {α β : Type} (f : α → β) (a : α) : (Except.ok a : Except String α).map f = .ok (f a) := id rfl
@[scoped simp] theorem in_list (x : D) (ys : List D) (h : (shap 30 x && shaps 30 ys) = true) : inD x (.list ys) = .ok (ys.any fun z => PyData.eqv z x) := by simp only [inD, h, if_true]
@[scoped simp] theorem in_tuple (x : D) (ys : List D) (h : (flatD x && ys.all flatD) = true) : inD x (.tuple ys) = .ok (ys.any fun z => PyData.eqv z x) := by simp only [inD, h, if_true]
@[scoped simp] theorem flatD_int (i : Int) : flatD (.int i) = true := id rfl
@[scoped simp] theorem flatD_bool (i : Bool) : flatD (.bool i) = true := id rfl
@[scoped simp] theorem flatD_none : flatD .none = true := id rfl
@[scoped simp] theorem flatD_str (s : Str) : flatD (.str s) = true := id rfl
@[scoped simp] theorem isi_int (t : String) (i : Int) : isiD t (.int i) = .ok (t == "int") := id rfl
@[scoped simp] theorem isi_bool (t : String) (i : Bool) : isiD t (.bool i) = .ok (t == "bool" || t == "int") := id rfl
@[scoped simp] theorem isi_none (t : String) : isiD t .none = .ok false := id rfl
@[scoped simp] theorem isi_str (t : String) (s : Str) : isiD t (.str s) = .ok (t == "str") := id rfl
@[scoped simp] theorem isi_tuple (t : String) (s : List D) : isiD t (.tuple s) = .ok (t == "tuple") := id rfl
@[scoped simp] theorem isi_list (t : String) (s : List D) : isiD t (.list s) = .ok (t == "list") := id rfl
/-! ### builtins -/
@[scoped simp] theorem bi_lenL (xs : List D) : biD .len [.list xs] = .ok (.int (xs.length : Nat)) := id rfl
@[scoped simp] theorem bi_lenT (xs : List D) : biD .len [.tuple xs] = .ok (.int (xs.length : Nat)) := id rfl
@[scoped simp] theorem bi_abs (i : Int) : biD .abs [.int i] = .ok (.int (if i < 0 then -i else i)) := id rfl
@[scoped simp] theorem bi_int (i : Int) : biD .int [.int i] = .ok (.int i) := id rfl
@[scoped simp] theorem bi_tupL (xs : List D) : biD .tuple [.list xs] = .ok (.tuple xs) := id rfl
@[scoped simp] theorem bi_tupT (xs : List D) : biD .tuple [.tuple xs] = .ok (.tuple xs) := id rfl
@[scoped simp] theorem bi_listL (xs : List D) : biD .list [.list xs] = .ok (.list xs) := id rfl
@[scoped simp] theorem bi_listT (xs : List D) : biD .list [.tuple xs] = .ok (.list xs) := id rfl
@[scoped simp] theorem boolsD_map {α : Type} (f : α → Bool) : ∀ xs : List α, boolsD (xs.map fun a => .bool (f a)) = some (xs.map f)
  | [] => rfl
  | x :: xs => by simp [boolsD, boolsD_map f xs]
@[scoped simp] theorem intsD_map {α : Type} (f : α → Int) : ∀ xs : List α, intsD (xs.map fun a => .int (f a)) = some (xs.map f)
  | [] => rfl
  | x :: xs => by simp [intsD, intsD_map f xs]
@[scoped simp] theorem bi_all {α : Type} (f : α → Bool) (xs : List α) : biD .all [.list (xs.map fun a => .bool (f a))] = .ok (.bool (xs.all f)) := by simp [biD, List.all_map]
@[scoped simp] theorem bi_any {α : Type} (f : α → Bool) (xs : List α) : biD .any [.list (xs.map fun a => .bool (f a))] = .ok (.bool (xs.any f)) := by simp [biD, List.any_map]
@[scoped simp] theorem bi_sum {α : Type} (f : α → Int) (xs : List α) : biD .sum [.list (xs.map fun a => .int (f a))] = .ok (.int (xs.map f).sum) := by simp [biD]
@[scoped simp] theorem bi_all0 : biD .all [.list []] = .ok (.bool true) := id rfl
@[scoped simp] theorem bi_any0 : biD .any [.list []] = .ok (.bool false) := id rfl
@[scoped simp] theorem bi_sum0 : biD .sum [.list []] = .ok (.int 0) := id rfl
/-! ### sorting of small numbers -/
def insN (i : Nat) : List Nat → List Nat
  | [] => [i]
  | j :: r => if i ≤ j then i :: j :: r else j :: insN i r
def sortN : List Nat → List Nat
  | [] => []
  | i :: r => insN i (sortN r)
def nubN : List Nat → List Nat
  | [] => []
  | i :: r => if r.contains i then nubN r else i :: nubN r
theorem insI_nat (i : Nat) : ∀ xs : List Nat, insI (i : Int) (xs.map Int.ofNat) = (insN i xs).map Int.ofNat
  | [] => rfl
  | x :: xs => by
    have ih := insI_nat i xs
    simp only [List.map_cons, insI, insN]
    by_cases h : i ≤ x
    · rw [if_pos h, if_pos (by simpa using h)]; simp
    · rw [if_neg h, if_neg (by simpa using h)]; simp [ih]
theorem sortI_nat : ∀ xs : List Nat, sortI (xs.map Int.ofNat) = (sortN xs).map Int.ofNat
  | [] => rfl
  | x :: xs => by simp only [List.map_cons, sortI, sortN, sortI_nat xs]; exact insI_nat x _
theorem contains_nat (i : Nat) : ∀ xs : List Nat, (xs.map Int.ofNat).contains (i : Int) = xs.contains i
  | [] => rfl
  | x :: xs => by
    simp only [List.map_cons, List.contains_cons, contains_nat i xs]
    congr 1
    rw [Bool.eq_iff_iff]; simp
theorem nubI_nat : ∀ xs : List Nat, nubI (xs.map Int.ofNat) = (nubN xs).map Int.ofNat
  | [] => rfl
  | x :: xs => by
    have := contains_nat x xs
    simp only [List.map_cons, nubI, nubN, nubI_nat xs]
    simp only [Int.ofNat_eq_natCast, this] at *
    split <;> simp_all
@[scoped simp] theorem bi_sorted {α : Type} (f : α → Nat) (xs : List α) : biD .sorted [.list (xs.map fun a => .int (f a : Int))] = .ok (.list ((sortN (xs.map f)).map fun x : Nat => .int (x : Int))) := by
  have e : (xs.map fun a => (f a : Int)) = (xs.map f).map Int.ofNat := by simp
  simp only [biD, intsD_map]
  rw [e, sortI_nat]
  simp
theorem bi_sset {α : Type} (f : α → Nat) (xs : List α) (h : xs.length < 1000) (h' : (nubN (xs.map f)).length < 64) : biD .sset [.list (xs.map fun a => .int (f a : Int))] = .ok (.list ((sortN (nubN (xs.map f))).map fun x : Nat => .int (x : Int))) := by
  have e : (xs.map fun a => (f a : Int)) = (xs.map f).map Int.ofNat := by simp
  simp only [biD, intsD_map]
  rw [e, nubI_nat, sortI_nat]
  simp [h, h']
theorem mem_insN {i x : Nat} : ∀ {xs : List Nat}, x ∈ insN i xs ↔ x = i ∨ x ∈ xs
  | [] => by simp [insN]
  | y :: ys => by
    simp only [insN]
    split
    · simp
    · simp [mem_insN (xs := ys)]
      constructor
      · rintro (h | h | h) <;> simp [h]
      · rintro (h | h | h) <;> simp [h]
theorem mem_sortN {x : Nat} : ∀ {xs : List Nat}, x ∈ sortN xs ↔ x ∈ xs
  | [] => by simp [sortN]
  | y :: ys => by simp [sortN, mem_insN, mem_sortN (xs := ys)]
theorem mem_nubN {x : Nat} : ∀ {xs : List Nat}, x ∈ nubN xs ↔ x ∈ xs
  | [] => by simp [nubN]
  | y :: ys => by
    simp only [nubN]
    split
    · rename_i h
      rw [mem_nubN (xs := ys)]
      simp at h
      constructor
      · exact fun z => List.mem_cons_of_mem _ z
      · intro z
        rcases List.mem_cons.mp z with rfl | z
        · exact h
        · exact z
    · simp [mem_nubN (xs := ys)]
theorem len_insN (i : Nat) : ∀ xs : List Nat, (insN i xs).length = xs.length + 1
  | [] => rfl
  | y :: ys => by
    simp only [insN]
    split <;> simp [len_insN i ys]
theorem len_sortN : ∀ xs : List Nat, (sortN xs).length = xs.length
  | [] => rfl
  | y :: ys => by simp [sortN, len_insN, len_sortN ys]
theorem len_nubN : ∀ xs : List Nat, (nubN xs).length ≤ xs.length
  | [] => Nat.le_refl _
  | y :: ys => by
    have := len_nubN ys
    simp only [nubN]
    split
    · simp; omega
    · simp; omega
/-! ### ranges, slices -/
@[scoped simp] theorem rngL0 (b : Nat) : rngL 0 (b : Int) = (List.range b).map fun k : Nat => .int (k : Int) := by simp [rngL]
@[scoped simp] theorem it_seqL (xs : List D) : itemsD .seq [.list xs] = .ok xs := id rfl
@[scoped simp] theorem it_seqT (xs : List D) : itemsD .seq [.tuple xs] = .ok xs := id rfl
theorem it_rng {b : Int} (h : rngOk 0 b = true) : itemsD .rng [.int b] = .ok (rngL 0 b) := by simp only [itemsD, h, if_true]
@[scoped simp] theorem it_rngN (b : Int) (h : 0 ≤ b) (h' : b ≤ 1000000) : itemsD .rng [.int b] = .ok ((List.range b.toNat).map fun k : Nat => .int (k : Int)) := by
  have : rngOk 0 b = true := by simp [rngOk]; omega
  obtain ⟨n, rfl⟩ := Int.eq_ofNat_of_zero_le h
  rw [it_rng this, rngL0, Int.toNat_natCast]
@[scoped simp] theorem it_zip (xs ys : List D) : itemsD .zip [.list xs, .list ys] = .ok ((xs.zip ys).map fun p => .tuple [p.1, p.2]) := id rfl
@[scoped simp] theorem it_zipT (xs ys : List D) : itemsD .zip [.tuple xs, .tuple ys] = .ok ((xs.zip ys).map fun p => .tuple [p.1, p.2]) := id rfl
@[scoped simp] theorem slc_L (xs : List D) (lo hi : Option Int) : slcD (.list xs) lo hi = .ok (.list (cut xs lo hi)) := id rfl
@[scoped simp] theorem slc_T (xs : List D) (lo hi : Option Int) : slcD (.tuple xs) lo hi = .ok (.tuple (cut xs lo hi)) := id rfl
@[scoped simp] theorem cut_from (xs : List D) (k : Nat) : cut xs (some (k : Int)) none = xs.drop k := by
  simp only [cut, sIx]
  rw [if_neg (by omega)]
  simp only [Int.toNat_natCast]
  rw [List.take_of_length_le]
  · by_cases h : k ≤ xs.length
    · rw [Nat.min_eq_left h]
    · rw [Nat.min_eq_right (by omega), List.drop_of_length_le (Nat.le_refl _), List.drop_of_length_le (by omega)]
  · simp
@[scoped simp] theorem cut_fromI (xs : List D) (k : Int) (h : 0 ≤ k) : cut xs (some k) none = xs.drop k.toNat := by
  obtain ⟨n, rfl⟩ := Int.eq_ofNat_of_zero_le h
  rw [cut_from, Int.toNat_natCast]
@[scoped simp] theorem cut_1 (xs : List D) : cut xs (some 1) none = xs.drop 1 := cut_from xs 1
@[scoped simp] theorem cut_to (xs : List D) (k : Nat) : cut xs none (some (k : Int)) = xs.take k := by
  simp only [cut, sIx]
  rw [if_neg (by omega)]
  simp only [Int.toNat_natCast, List.drop_zero, Nat.sub_zero]
  by_cases h : k ≤ xs.length
  · rw [Nat.min_eq_left h]
  · rw [Nat.min_eq_right (by omega), List.take_of_length_le (Nat.le_refl _), List.take_of_length_le (by omega)]
@[scoped simp] theorem cut_toI (xs : List D) (k : Int) (h : 0 ≤ k) : cut xs none (some k) = xs.take k.toNat := by
  obtain ⟨n, rfl⟩ := Int.eq_ofNat_of_zero_le h
  rw [cut_to, Int.toNat_natCast]
@[scoped simp] theorem ixN_nn (n : Nat) (i : Int) (h : 0 ≤ i) (h' : i < n) : ixN n i = some i.toNat := by simp [ixN, h, h']
@[scoped simp] theorem sub_L (xs : List D) (i : Int) (h : 0 ≤ i) (h' : i.toNat < xs.length) : subD (.list xs) (.int i) = .ok xs[i.toNat] := by
  have : i < xs.length := by omega
  simp [subD, atI, ixN, h, h', this]
@[scoped simp] theorem sub_T (xs : List D) (i : Int) (h : 0 ≤ i) (h' : i.toNat < xs.length) : subD (.tuple xs) (.int i) = .ok xs[i.toNat] := by
  have : i < xs.length := by omega
  simp [subD, atI, ixN, h, h', this]
theorem bodyC_eq {C : Cfg} {n : Nat} {df : Df} {args : List D} (h1 : args.length = df.np) (h2 : (df.ff && !df.io.isEmpty) = false) (h3 : df.io.any (fun i => (asgSs df.body).contains i) = false) (h4 : ∀ i ∈ df.io, (args[i]?).map isLst = some true) :
    bodyC C n df args = finC df.ff df.io (evSs C n df.io df.ff df.body (slots0 df.io 0 args ++ List.replicate (df.ns - df.np) .un)) := by
  unfold bodyC
  rw [if_neg (by simp [h1]), if_neg (by simp [h2]), if_neg]
  simp only [Bool.not_eq_true]
  rw [List.any_eq_false] at h3 ⊢
  intro i hi
  have := h3 i hi
  simp only [Bool.not_eq_true] at this
  simp only [this, h4 i hi, Bool.false_or]
  decide
theorem tail_map' {α β : Type} (f : α → β) (xs : List α) : (xs.map f).tail = xs.tail.map f := by cases xs <;> rfl
theorem drop_map' {α β : Type} (f : α → β) (k : Nat) (xs : List α) : (xs.map f).drop k = (xs.drop k).map f := by simp [List.map_drop]
theorem take_map' {α β : Type} (f : α → β) (k : Nat) (xs : List α) : (xs.map f).take k = (xs.take k).map f := by simp [List.map_take]
@[scoped simp] theorem zip_maps {α β γ δ : Type} (f : α → β) (g : γ → δ) (xs : List α) (ys : List γ) : (xs.map f).zip (ys.map g) = (xs.zip ys).map fun p => (f p.1, g p.2) := by
  rw [List.zip_map]
  rfl
@[scoped simp] theorem lenOk_def {α : Type} (xs : List α) : lenOk xs = decide (xs.length < 1000000) := id rfl
@[scoped simp] theorem popAt_lt (xs : List D) (k i : Nat) (ρ : Ev) (h : k < xs.length) : popAt xs k i ρ = .ok xs[k] (ρ.set i (.ow (.list (xs.eraseIdx k)))) := by simp [popAt, h]
@[scoped simp] theorem bi_lrng (b : Int) (h : 0 ≤ b) (h' : b ≤ 1000000) : biD .lrng [.int b] = .ok (.list ((List.range b.toNat).map fun k : Nat => .int (k : Int))) := by
  have : rngOk 0 b = true := by simp [rngOk]; omega
  obtain ⟨n, rfl⟩ := Int.eq_ofNat_of_zero_le h
  simp only [biD, this, if_true, rngL0, Int.toNat_natCast]
theorem eraseIdx_map' {α β : Type} (f : α → β) : ∀ (k : Nat) (xs : List α), (xs.map f).eraseIdx k = (xs.eraseIdx k).map f
  | _, [] => rfl
  | 0, _ :: _ => rfl
  | k + 1, x :: xs => by simp [eraseIdx_map' f k xs]
theorem perm_eraseIdx {α : Type} : ∀ (k : Nat) (xs : List α) (h : k < xs.length), (xs[k] :: xs.eraseIdx k).Perm xs
  | _, [], h => by simp at h
  | 0, x :: xs, _ => by simp
  | k + 1, x :: xs, h => by
    have ih := perm_eraseIdx k xs (by simpa using h)
    simp only [List.getElem_cons_succ, List.eraseIdx_cons_succ]
    exact (List.Perm.swap x _ _).trans (ih.cons x)
@[scoped simp] theorem nn_one_add (x : Nat) : 0 ≤ (1 : Int) + (x : Int) := by omega
@[scoped simp] theorem tn_one_add (x : Nat) : ((1 : Int) + (x : Int)).toNat = 1 + x := by omega
@[scoped simp] theorem nn_add_one (x : Nat) : 0 ≤ (x : Int) + 1 := by omega
@[scoped simp] theorem tn_add_one (x : Nat) : ((x : Int) + 1).toNat = x + 1 := by omega
@[scoped simp] theorem nn_add (x y : Nat) : 0 ≤ (x : Int) + (y : Int) := by omega
@[scoped simp] theorem tn_add (x y : Nat) : ((x : Int) + (y : Int)).toNat = x + y := by omega
@[scoped simp] theorem tn_sub (x y : Nat) : ((x : Int) - (y : Int)).toNat = x - y := by omega
@[scoped simp] theorem it_rng2 (a b : Int) (h : 0 ≤ a) (h' : a ≤ 1000000) (g : 0 ≤ b) (g' : b ≤ 1000000) : itemsD .rng [.int a, .int b] = .ok ((List.range (b - a).toNat).map fun k : Nat => .int (a + (k : Int))) := by
  have : rngOk a b = true := by simp [rngOk]; omega
  simp only [itemsD, this, if_true, rngL]
theorem any_eqv_nat {α : Type} (f : α → Nat) (r : Nat) : ∀ xs : List α, ((xs.map fun a => PyData.int (f a : Int)).any fun z => PyData.eqv z (.int (r : Int))) = decide (r ∈ xs.map f)
  | [] => rfl
  | x :: xs => by
    have ih := any_eqv_nat f r xs
    rw [List.map_cons, List.any_cons, ih, eqv_ii, beq_nat, Bool.eq_iff_iff]
    simp only [Bool.or_eq_true, beq_iff_eq, decide_eq_true_eq, List.map_cons, List.mem_cons]
    exact or_congr_left ⟨fun e => e.symm, fun e => e.symm⟩
@[scoped simp high] theorem in_natsL {α : Type} (f : α → Nat) (r : Nat) (xs : List α) : inD (.int (r : Int)) (.list (xs.map fun a => PyData.int (f a : Int))) = .ok (decide (r ∈ xs.map f)) := by
  rw [in_list _ _ (by simp), any_eqv_nat]
@[scoped simp high] theorem in_natsT {α : Type} (f : α → Nat) (r : Nat) (xs : List α) : inD (.int (r : Int)) (.tuple (xs.map fun a => PyData.int (f a : Int))) = .ok (decide (r ∈ xs.map f)) := by
  rw [in_tuple _ _ (by simp), any_eqv_nat]
theorem bi_all_def (xs : List D) : biD .all [.list xs] = match boolsD xs with | some bs => .ok (.bool (bs.all id)) | none => .error "all" := rfl
theorem bi_any_def (xs : List D) : biD .any [.list xs] = match boolsD xs with | some bs => .ok (.bool (bs.any id)) | none => .error "any" := rfl
@[scoped simp] theorem shap_str (n : Nat) (s : Str) : shap n (.str s) = PyData.strOk s := by simp [shap]
@[scoped simp] theorem strOk3 : PyData.strOk (Str.ofString "3") = true := by decide +kernel
@[scoped simp] theorem strOk0 : PyData.strOk (Str.ofString "0") = true := by decide +kernel
@[scoped simp] theorem filter_tt {α : Type} (xs : List α) : xs.filter (fun _ => true) = xs := List.filter_eq_self.mpr (by simp)
def maxN : List Nat → Nat
  | [] => 0
  | [i] => i
  | i :: r => max i (maxN r)
theorem maxI_nat : ∀ xs : List Nat, maxI (xs.map Int.ofNat) = (maxN xs : Int)
  | [] => rfl
  | [x] => rfl
  | x :: y :: r => by
    have ih := maxI_nat (y :: r)
    simp only [List.map_cons] at ih ⊢
    simp only [maxI, maxN] at ih ⊢
    rw [ih, Int.ofNat_eq_natCast]
    omega
theorem bi_max {α : Type} (f : α → Nat) (xs : List α) (h : xs ≠ []) : biD .max [.list (xs.map fun a => .int (f a : Int))] = .ok (.int ((maxN (xs.map f) : Nat) : Int)) := by
  have e : (xs.map fun a => (f a : Int)) = (xs.map f).map Int.ofNat := by simp
  have h2 := maxI_nat (xs.map f)
  cases xs with
  | nil => exact absurd rfl h
  | cons x r =>
    simp only [biD, intsD_map]
    rw [e, ← h2]
    rfl
theorem maxN_le {b : Nat} : ∀ {xs : List Nat}, (∀ x ∈ xs, x ≤ b) → maxN xs ≤ b
  | [], _ => Nat.zero_le _
  | [x], h => h x (by simp)
  | x :: y :: r, h => by
    have := maxN_le (xs := y :: r) (b := b) fun z hz => h z (by simp at hz ⊢; exact .inr hz)
    have := h x (by simp)
    simp only [maxN]
    omega
theorem le_maxN {x : Nat} : ∀ {xs : List Nat}, x ∈ xs → x ≤ maxN xs
  | [y], h => by simp at h; simp [maxN, h]
  | y :: z :: r, h => by
    simp only [maxN]
    rcases List.mem_cons.mp h with rfl | h
    · omega
    · have := le_maxN h
      omega
@[scoped simp high] theorem it_rngS (a : Nat) (h : a < 1000000) : itemsD .rng [.int ((a : Int) + 1)] = .ok ((List.range (a + 1)).map fun k : Nat => .int (k : Int)) := by
  rw [it_rngN _ (by omega) (by omega)]
  rfl
@[scoped simp high] theorem it_rngS' (a b : Nat) (g : b ≤ 1000000) (h : a < 1000000) : itemsD .rng [.int (b : Int), .int ((a : Int) + 1)] = .ok ((List.range (a + 1 - b)).map fun k : Nat => .int ((b : Int) + (k : Int))) := by
  rw [it_rng2 _ _ (by omega) (by omega) (by omega) (by omega), show ((a : Int) + 1 - (b : Int)).toNat = a + 1 - b from by omega]
@[scoped simp high] theorem it_rngNN (a b : Nat) (g : b ≤ 1000000) (h : a ≤ 1000000) : itemsD .rng [.int (b : Int), .int (a : Int)] = .ok ((List.range (a - b)).map fun k : Nat => .int ((b : Int) + (k : Int))) := by
  rw [it_rng2 _ _ (by omega) (by omega) (by omega) (by omega), show ((a : Int) - (b : Int)).toNat = a - b from by omega]
theorem bi_maxT {α : Type} (f : α → Nat) (xs : List α) (h : xs ≠ []) : biD .max [.tuple (xs.map fun a => .int (f a : Int))] = .ok (.int ((maxN (xs.map f) : Nat) : Int)) := by
  have e := bi_max f xs h
  cases xs with
  | nil => exact absurd rfl h
  | cons x r => exact e
def minN : List Nat → Nat
  | [] => 0
  | [i] => i
  | i :: r => min i (minN r)
theorem minI_nat : ∀ xs : List Nat, minI (xs.map Int.ofNat) = (minN xs : Int)
  | [] => rfl
  | [x] => rfl
  | x :: y :: r => by
    have ih := minI_nat (y :: r)
    simp only [List.map_cons] at ih ⊢
    simp only [minI, minN] at ih ⊢
    rw [ih, Int.ofNat_eq_natCast]
    omega
theorem bi_min {α : Type} (f : α → Nat) (xs : List α) (h : xs ≠ []) : biD .min [.list (xs.map fun a => .int (f a : Int))] = .ok (.int ((minN (xs.map f) : Nat) : Int)) := by
  have e : (xs.map fun a => (f a : Int)) = (xs.map f).map Int.ofNat := by simp
  have h2 := minI_nat (xs.map f)
  cases xs with
  | nil => exact absurd rfl h
  | cons x r =>
    simp only [biD, intsD_map]
    rw [e, ← h2]
    rfl
/-- max((-1,) + row) -/
theorem bi_maxM (r : List Nat) : biD .max [.tuple (.int (-1) :: r.map fun x : Nat => .int (x : Int))] = .ok (.int (if r = [] then -1 else (maxN r : Int))) := by
  have e : intsD (r.map fun x : Nat => PyData.int (x : Int)) = some (r.map Int.ofNat) := intsD_map (fun x : Nat => (x : Int)) r
  simp only [biD, intsD, e, Option.map_some]
  cases r with
  | nil => rfl
  | cons x r =>
    have h2 := maxI_nat (x :: r)
    simp only [List.map_cons] at h2 ⊢
    simp only [maxI, h2, if_neg (List.cons_ne_nil x r)]
    have e2 : max (-1 : Int) ((maxN (x :: r) : Nat) : Int) = ((maxN (x :: r) : Nat) : Int) := by omega
    rw [e2]
theorem nubI_len {α : Type} (f : α → Nat) (xs : List α) : (nubI (xs.map fun a => (f a : Int))).length = (nubN (xs.map f)).length := by
  have e : (xs.map fun a => (f a : Int)) = (xs.map f).map Int.ofNat := by simp
  rw [e, nubI_nat, List.length_map]
@[scoped simp] theorem bi_lsetL {α : Type} (f : α → Nat) (xs : List α) (h : xs.length < 1000) : biD .lset [.list (xs.map fun a => .int (f a : Int))] = .ok (.int ((nubN (xs.map f)).length : Nat)) := by
  simp only [biD, intsD_map, List.length_map, h, decide_true, if_true, nubI_len]
@[scoped simp] theorem bi_lsetT {α : Type} (f : α → Nat) (xs : List α) (h : xs.length < 1000) : biD .lset [.tuple (xs.map fun a => .int (f a : Int))] = .ok (.int ((nubN (xs.map f)).length : Nat)) := by
  simp only [biD, intsD_map, List.length_map, h, decide_true, if_true, nubI_len]
@[scoped simp] theorem it_enmL (xs : List D) : itemsD .enm [.list xs] = .ok (xs.zipIdx.map fun p => .tuple [.int p.2, p.1]) := id rfl
@[scoped simp] theorem it_enmT (xs : List D) : itemsD .enm [.tuple xs] = .ok (xs.zipIdx.map fun p => .tuple [.int p.2, p.1]) := id rfl
theorem zipIdx_map' {α β : Type} (f : α → β) : ∀ (xs : List α) (k : Nat), (xs.map f).zipIdx k = (xs.zipIdx k).map fun p => (f p.1, p.2)
  | [], _ => rfl
  | x :: xs, k => by simp [zipIdx_map' f xs (k + 1)]
@[scoped simp] theorem isLA_l (xs : List D) : isLA (some (.list xs)) = true := by simp [isLA]
theorem me_index (xs : List D) (x : D) (h : (flatD x && xs.all flatD) = true) : meD .index (.list xs) [x] = match findIx x xs 0 with | some j => .ok (.int j) | none => .error "no index" := by simp only [meD, h, if_true] <;> rfl
def idxN (x : Nat) : List Nat → Nat → Option Nat
  | [], _ => none
  | y :: r, n => if y = x then some n else idxN x r (n + 1)
theorem findIx_nat (x : Nat) : ∀ (xs : List Nat) (n : Nat), findIx (.int (x : Int)) (xs.map fun y : Nat => .int (y : Int)) n = idxN x xs n
  | [], _ => rfl
  | y :: r, n => by
    simp only [List.map_cons, findIx, idxN, eqv_ii, beq_nat, findIx_nat x r (n + 1), beq_iff_eq]
theorem idxN_some {x : Nat} : ∀ {xs : List Nat} (n : Nat), x ∈ xs → ∃ j, idxN x xs n = some (n + j) ∧ xs[j]? = some x
  | y :: r, n, h => by
    by_cases e : y = x
    · exact ⟨0, by simp [idxN, e], by simp [e]⟩
    · obtain ⟨j, h1, h2⟩ := idxN_some (xs := r) (n + 1) (by simpa [e, eq_comm] using (List.mem_cons.mp h).resolve_left (fun z => e z.symm))
      refine ⟨j + 1, ?_, by simpa using h2⟩
      simp only [idxN, e, if_false, h1, Option.some.injEq]
      omega
theorem me_indexN (xs : List Nat) (x j : Nat) (h : idxN x xs 0 = some j) : meD .index (.list (xs.map fun y : Nat => .int (y : Int))) [.int (x : Int)] = .ok (.int (j : Nat)) := by
  rw [me_index _ _ (by simp), findIx_nat, h]
end JK.JKS

end
section
set_option linter.all false
set_option autoImplicit false
set_option maxRecDepth 100000
/-! JkPure: sets of points as numbers, families, draws. -/
namespace JK.JKS
open PySem
@[scoped simp] theorem bit_t (x i : Nat) : (x >>> i &&& 1 == 1) = x.testBit i := by
  simp only [Nat.testBit, Nat.and_comm 1]
  have : x >>> i &&& 1 = 0 ∨ x >>> i &&& 1 = 1 := by rw [Nat.and_one_is_mod]; omega
  rcases this with h | h <;> rw [h] <;> rfl
/-- the points in a set -/
def pin (x : Nat) : List Nat := (List.range 6).filter fun i => x.testBit i
def size (x : Nat) : Nat := (pin x).length
def uni : List Nat → Nat := fun fs => fs.foldl (fun a b => a ||| b) 0
/-- a family -/
structure Fam (fs : List Nat) : Prop where
  asc : fs.Pairwise (· < ·)
  pos : ∀ x ∈ fs, 0 < x ∧ x < 64
  ne : 1 ≤ fs.length
  le : fs.length ≤ 8
def ascB : List Nat → Bool
  | [] => true
  | [_] => true
  | x :: y :: r => decide (x < y) && ascB (y :: r)
theorem zip_asc : ∀ fs : List Nat, (fs.zip fs.tail).all (fun p => decide (p.1 < p.2)) = ascB fs
  | [] => rfl
  | [x] => rfl
  | x :: y :: r => by
    have ih := zip_asc (y :: r)
    simp only [List.tail_cons] at ih
    simp only [List.tail_cons, List.zip_cons_cons, List.all_cons, ascB, ih]
theorem ascB_iff : ∀ {fs : List Nat}, ascB fs = true ↔ fs.Pairwise (· < ·)
  | [] => by simp [ascB]
  | [x] => by simp [ascB]
  | x :: y :: r => by
    simp only [ascB, Bool.and_eq_true, decide_eq_true_eq, ascB_iff (fs := y :: r), List.pairwise_cons (a := x)]
    constructor
    · rintro ⟨h, h2⟩
      refine ⟨fun z hz => ?_, h2⟩
      rcases List.mem_cons.mp hz with rfl | hz
      · exact h
      · exact Nat.lt_trans h ((List.pairwise_cons.mp h2).1 z hz)
    · rintro ⟨h, h2⟩
      exact ⟨h y (by simp), h2⟩
/-- a family's test -/
def famB (fs : List Nat) : Bool := decide (1 ≤ fs.length) && decide (fs.length ≤ 8) && fs.all (fun x => decide (0 < x) && decide (x < 64)) && ascB fs
theorem famB_iff {fs : List Nat} : famB fs = true ↔ Fam fs := by
  simp only [famB, Bool.and_eq_true, decide_eq_true_eq, List.all_eq_true, ascB_iff]
  exact ⟨fun ⟨⟨⟨a, b⟩, c⟩, d⟩ => ⟨d, c, a, b⟩, fun ⟨d, c, a, b⟩ => ⟨⟨⟨a, b⟩, c⟩, d⟩⟩
theorem Fam.b {fs : List Nat} (h : Fam fs) : famB fs = true := famB_iff.mpr h
/-- a draw's state -/
structure Dw where
  cells : List Nat
  i : Nat
  cur : Nat
  seed : Nat
def Dw.d (s : Dw) : D := .list [.list (nats s.cells), .int ((s.i : Int) - 1), .int s.cur, .int s.seed]
@[scoped simp] theorem isLst_dw (s : Dw) : isLst s.d = true := by simp [Dw.d]
def Dw.stepG (a c b : Nat) (s : Dw) : Dw :=
  if s.cur = 0 then
    if s.i < s.cells.length ∧ ¬ s.cells.getD s.i 0 = 0 then ⟨s.cells, s.i + 1, s.cells.getD s.i 0, s.seed⟩
    else ⟨s.cells, s.i + 1, (s.seed * a + c) % b, (s.seed * a + c) % b⟩
  else s
def Dw.step (s : Dw) : Dw := s.stepG 48271 11 2147483647
def Dw.v (s : Dw) (m : Nat) : Nat := s.step.cur % m
def Dw.t (s : Dw) (m : Nat) : Dw := { s.step with cur := s.step.cur / m }
@[scoped simp] theorem Dw.v_lt (s : Dw) {m : Nat} (h : 0 < m) : s.v m < m := Nat.mod_lt _ h
def takeH (a c b : Int) : S :=
  .ifs (.cmp .eq (.sub (.bor 0) (.int 2)) (.int 0))
    [.seti 0 (.int 1) (.op .add (.sub (.bor 0) (.int 1)) (.int 1)),
     .ifs (.cmp .lt (.sub (.bor 0) (.int 1)) (.bi .len [.sub (.bor 0) (.int 0)]))
      [.seti 0 (.int 2) (.sub (.sub (.bor 0) (.int 0)) (.sub (.bor 0) (.int 1)))]
      [],
     .ifs (.cmp .eq (.sub (.bor 0) (.int 2)) (.int 0))
      [.seti 0 (.int 3) (.op .mod (.bi .int [.op .add (.op .mul (.sub (.bor 0) (.int 3)) (.int a)) (.int c)]) (.int b)),
       .seti 0 (.int 2) (.sub (.bor 0) (.int 3))]
      []]
    []
def takeB (a c b : Int) : List S :=
  [takeH a c b, .asg 2 (.op .mod (.bi .int [.sub (.bor 0) (.int 2)]) (.var 1)),
   .seti 0 (.int 2) (.op .fdiv (.sub (.bor 0) (.int 2)) (.var 1)),
   .ret (.var 2)]
section
variable (C : Cfg) (n : Nat)
theorem takeT (s : Dw) (m : Nat) (h0 : 0 < m) (h1 : m < 1073741824) : evSs C n [0] false [.asg 2 (.op .mod (.bi .int [.sub (.bor 0) (.int 2)]) (.var 1)),
   .seti 0 (.int 2) (.op .fdiv (.sub (.bor 0) (.int 2)) (.var 1)),
   .ret (.var 2)] [.ow s.d, .sh (.int m), .un] = .rt (.int (s.cur % m : Nat)) [.ow ({ s with cur := s.cur / m } : Dw).d, .sh (.int m), .sh (.int (s.cur % m : Nat))] := by
  simp (maxDischargeDepth := 9) [zipIdx_map', eraseIdx_map', tail_map', drop_map', take_map', -List.map_tail, -List.map_drop, -List.map_take, -getElem?_pos, -getElem?_neg, -Int.natCast_shiftRight, -Nat.and_one_is_mod, -Int.natCast_pow, -Nat.one_and_eq_mod_two, Dw.d, h0, h1]
theorem takeS1 (cells : List D) (i m seed: Int) : evS C n [0] false (.seti 0 (.int 1) (.op .add (.sub (.bor 0) (.int 1)) (.int 1))) [.ow (.list [.list cells, .int (i-1), .int 0, .int seed]), .sh (.int m), .un] = .nx [.ow (.list [.list cells, .int i, .int 0, .int seed]), .sh (.int m), .un] := by
  simp (maxDischargeDepth := 9) [zipIdx_map', eraseIdx_map', tail_map', drop_map', take_map', -List.map_tail, -List.map_drop, -List.map_take, -getElem?_pos, -getElem?_neg, -Int.natCast_shiftRight, -Nat.and_one_is_mod, -Int.natCast_pow, -Nat.one_and_eq_mod_two]
theorem takeS2 (cells : List Nat) (i : Nat) (m seed: Int) : evS C n [0] false (.ifs (.cmp .lt (.sub (.bor 0) (.int 1)) (.bi .len [.sub (.bor 0) (.int 0)]))
      [.seti 0 (.int 2) (.sub (.sub (.bor 0) (.int 0)) (.sub (.bor 0) (.int 1)))]
      []) [.ow (.list [.list (nats cells), .int i, .int 0, .int seed]), .sh (.int m), .un] = .nx [.ow (.list [.list (nats cells), .int i, .int (if i < cells.length then cells.getD i 0 else 0 : Nat), .int seed]), .sh (.int m), .un] := by
  by_cases hi : i < cells.length
  · have hg : cells.getD i 0 = cells[i] := by simp [hi]
    simp (maxDischargeDepth := 9) [zipIdx_map', eraseIdx_map', tail_map', drop_map', take_map', -List.map_tail, -List.map_drop, -List.map_take, -getElem?_pos, -getElem?_neg, -Int.natCast_shiftRight, -Nat.and_one_is_mod, -Int.natCast_pow, -Nat.one_and_eq_mod_two, hi, nats]
    simp [hi]
  · simp (maxDischargeDepth := 9) [zipIdx_map', eraseIdx_map', tail_map', drop_map', take_map', -List.map_tail, -List.map_drop, -List.map_take, -getElem?_pos, -getElem?_neg, -Int.natCast_shiftRight, -Nat.and_one_is_mod, -Int.natCast_pow, -Nat.one_and_eq_mod_two, hi, nats]
theorem takeS3 (cells : List D) (i m seed cur: Int) (a b c : Int) (ha : smallI a = true) (hb : 0 < b) : evS C n [0] false (.ifs (.cmp .eq (.sub (.bor 0) (.int 2)) (.int 0))
      [.seti 0 (.int 3) (.op .mod (.bi .int [.op .add (.op .mul (.sub (.bor 0) (.int 3)) (.int a)) (.int c)]) (.int b)),
       .seti 0 (.int 2) (.sub (.bor 0) (.int 3))]
      []) [.ow (.list [.list cells, .int i, .int cur, .int seed]), .sh (.int m), .un] = .nx [.ow (if cur = 0 then .list [.list cells, .int i, .int ((seed * a + c) % b), .int ((seed * a + c) % b)] else .list [.list cells, .int i, .int cur, .int seed]), .sh (.int m), .un] := by
  have hm : opD .mul (.int seed) (.int a) = .ok (.int (seed * a)) := by simp only [opD, ha, Bool.or_true, if_true]
  by_cases hc : cur = 0
  · subst hc
    simp (maxDischargeDepth := 9) [zipIdx_map', eraseIdx_map', tail_map', drop_map', take_map', -List.map_tail, -List.map_drop, -List.map_take, -getElem?_pos, -getElem?_neg, -Int.natCast_shiftRight, -Nat.and_one_is_mod, -Int.natCast_pow, -Nat.one_and_eq_mod_two, hm, hb]
  · simp (maxDischargeDepth := 9) [zipIdx_map', eraseIdx_map', tail_map', drop_map', take_map', -List.map_tail, -List.map_drop, -List.map_take, -getElem?_pos, -getElem?_neg, -Int.natCast_shiftRight, -Nat.and_one_is_mod, -Int.natCast_pow, -Nat.one_and_eq_mod_two, hc]
theorem takeG (a c b : Nat) (ha : smallI a = true) (hb : 0 < b) (s : Dw) (m : Nat) (h0 : 0 < m) (h1 : m < 1073741824) :
    evSs C n [0] false (takeB a c b) [.ow s.d, .sh (.int m), .un] = .rt (.int ((s.stepG a c b).cur % m : Nat)) [.ow ({ s.stepG a c b with cur := (s.stepG a c b).cur / m } : Dw).d, .sh (.int m), .sh (.int ((s.stepG a c b).cur % m : Nat))] := by
  have hd : evS C n [0] false (takeH a c b) [.ow s.d, .sh (.int m), .un] = .nx [.ow (s.stepG a c b).d, .sh (.int m), .un] := by
    obtain ⟨cells, i, cur, seed⟩ := s
    by_cases hc : cur = 0
    · subst hc
      have e : evT C (.cmp .eq (.sub (.bor 0) (.int 2)) (.int 0)) [.ow (Dw.mk cells i 0 seed).d, .sh (.int m), .un] = .ok true [.ow (Dw.mk cells i 0 seed).d, .sh (.int m), .un] := by simp (maxDischargeDepth := 9) [zipIdx_map', eraseIdx_map', tail_map', drop_map', take_map', -List.map_tail, -List.map_drop, -List.map_take, -getElem?_pos, -getElem?_neg, -Int.natCast_shiftRight, -Nat.and_one_is_mod, -Int.natCast_pow, -Nat.one_and_eq_mod_two, Dw.d]
      simp only [takeH, evS_ifs, e, out_ok, if_true]
      rw [Dw.d]
      dsimp only
      rw [evSs_cons', show ((0 : Nat) : Int) = 0 from rfl, takeS1, sq_nx, evSs_cons', takeS2, sq_nx, evSs_cons', takeS3 C n _ _ _ _ _ _ _ _ ha (by omega), sq_nx, evSs_nil]
      by_cases hi : i < cells.length
      · by_cases hv : cells.getD i 0 = 0
        · rw [if_pos hi, if_pos (by omega)]
          simp only [Dw.stepG, hv, Dw.d]
          simp
        · rw [if_pos hi, if_neg (by omega)]
          simp only [Dw.stepG, hi, hv, Dw.d]
          simp
      · rw [if_neg hi, if_pos (by rfl)]
        simp only [Dw.stepG, hi, Dw.d]
        simp
    · have e : evT C (.cmp .eq (.sub (.bor 0) (.int 2)) (.int 0)) [.ow (Dw.mk cells i cur seed).d, .sh (.int m), .un] = .ok false [.ow (Dw.mk cells i cur seed).d, .sh (.int m), .un] := by simp (maxDischargeDepth := 9) [zipIdx_map', eraseIdx_map', tail_map', drop_map', take_map', -List.map_tail, -List.map_drop, -List.map_take, -getElem?_pos, -getElem?_neg, -Int.natCast_shiftRight, -Nat.and_one_is_mod, -Int.natCast_pow, -Nat.one_and_eq_mod_two, Dw.d, hc]
      simp only [takeH, evS_ifs, e, out_ok, Bool.false_eq_true, if_false, evSs_nil, Dw.stepG, hc]
  have ht := takeT C n (s.stepG a c b) m h0 h1
  rw [takeB, evSs_cons', hd, sq_nx, ht]
end
theorem compL_st {α β σ : Type} {tg : Tg} {vs : List Nat} {cond : Ev → R Bool} {elt : Ev → R β} {still : Ev → Bool} {g : α → D} {f : α → β} (ρs : σ → Ev) : ∀ (xs : List α),
    (∀ a ∈ xs, ∀ (s : σ), ∃ (ρ2 ρ3 : Ev) (b : Bool) (s' : σ), bindT tg (g a) (ρs s) = some ρ2 ∧ cond ρ2 = .ok b ρ3 ∧ (b = true → ∃ ρ4, elt ρ3 = .ok (f a) ρ4 ∧ still ρ4 = true ∧ wipeS ρ4 vs = ρs s') ∧ (b = false → still ρ3 = true ∧ wipeS ρ3 vs = ρs s')) →
    ∀ (s : σ), ∃ (ys : List α) (s' : σ), ys.Sublist xs ∧ compL tg vs cond elt still (xs.map g) (ρs s) = .ok (ys.map f) (ρs s')
  | [], _, s => ⟨[], s, .slnil, rfl⟩
  | a :: xs, h, s => by
    obtain ⟨ρ2, ρ3, b, s1, h1, h2, h3, h4⟩ := h a (by simp) s
    obtain ⟨ys, s', p, e⟩ := compL_st ρs xs (fun b hb => h b (by simp [hb])) s1
    cases b with
    | true =>
      obtain ⟨ρ4, h5, h6, h7⟩ := h3 rfl
      refine ⟨a :: ys, s', p.cons_cons a, ?_⟩
      rw [List.map_cons, compL, h1]
      simp only [h2, bd_ok, if_true, h5, h6, h7, e, List.map_cons]
    | false =>
      obtain ⟨h6, h7⟩ := h4 rfl
      refine ⟨ys, s', p.cons a, ?_⟩
      rw [List.map_cons, compL, h1]
      simp only [h2, bd_ok, Bool.false_eq_true, if_false, h6, if_true, h7, e]
theorem sum_sublist {α : Type} (f : α → Nat) {ys xs : List α} (h : ys.Sublist xs) : (ys.map f).sum ≤ (xs.map f).sum := by
  induction h with
  | slnil => simp
  | cons a _ ih => simp; omega
  | cons_cons a _ ih => simp; omega
theorem sum_cast : ∀ xs : List Nat, ((xs.sum : Nat) : Int) = (xs.map fun x : Nat => (x : Int)).sum
  | [] => rfl
  | x :: xs => by simp only [List.sum_cons, List.map_cons, ← sum_cast xs]; omega
theorem evSs_append (C : Cfg) (n : Nat) (io : List Nat) (ff : Bool) : ∀ (a b : List S) (ρ : Ev), evSs C n io ff (a ++ b) ρ = (evSs C n io ff a ρ).sq (evSs C n io ff b)
  | [], b, ρ => by simp
  | x :: a, b, ρ => by
    rw [List.cons_append, evSs_cons', evSs_cons']
    cases h : evS C n io ff x ρ <;> simp [evSs_append C n io ff a b]
theorem evSs_cut (C : Cfg) (n : Nat) (io : List Nat) (ff : Bool) (k : Nat) (b : List S) (ρ : Ev) : evSs C n io ff b ρ = (evSs C n io ff (b.take k) ρ).sq (evSs C n io ff (b.drop k)) := by
  rw [← evSs_append, List.take_append_drop]
def toldN : List (List Nat) := [[3, 6, 12, 17, 24], [3, 6, 9, 12, 15], [3, 5, 6, 7], [7, 11, 22, 37], [7, 25, 42, 52], [11, 13, 26, 28]]
theorem toldN_ok : ∀ l ∈ toldN, l.Nodup ∧ (∀ x ∈ l, 0 < x ∧ x < 64) ∧ 4 ≤ l.length ∧ l.length ≤ 5 := by decide
/-- the sets found -/
structure Fnd (f : List Nat) : Prop where
  nd : f.Nodup
  pos : ∀ x ∈ f, 0 < x ∧ x < 64
/-- a renamed set -/
def ren (l : List Nat) (x : Nat) : Nat := ((pin x).map fun i => 2 ^ l.getD i 0).sum
theorem disj_add {a b : Nat} (h : a &&& b = 0) : a + b = a ||| b := by
  have := PyProof.Rows.nat_or_add_and a b
  omega
theorem testBit_sum (ys : List Nat) : ∀ (y : Nat), ys.Nodup → ((ys.map fun i => 2 ^ i).sum.testBit y = decide (y ∈ ys)) := by
  induction ys with
  | nil => intro y _; simp
  | cons x xs ih =>
    intro y h
    have hx := List.nodup_cons.mp h
    have hz : 2 ^ x &&& (xs.map fun i => 2 ^ i).sum = 0 := by
      apply Nat.eq_of_testBit_eq
      intro i
      rw [Nat.testBit_and, ih i hx.2, Nat.testBit_two_pow, Nat.zero_testBit]
      by_cases e : x = i
      · subst e
        simp [hx.1]
      · simp [e]
    rw [List.map_cons, List.sum_cons, disj_add hz, Nat.testBit_or, ih y hx.2, Nat.testBit_two_pow, Bool.eq_iff_iff]
    simp only [Bool.or_eq_true, decide_eq_true_eq, List.mem_cons]
    exact or_congr_left ⟨fun e => e.symm, fun e => e.symm⟩
theorem pin_nodup (x : Nat) : (pin x).Nodup := List.Pairwise.filter _ List.nodup_range
theorem mem_pin {x i : Nat} : i ∈ pin x ↔ i < 6 ∧ x.testBit i = true := by simp [pin]
theorem ren_eq (l : List Nat) (x : Nat) : ren l x = (((pin x).map fun i => l.getD i 0).map fun i => 2 ^ i).sum := by simp [ren, List.map_map]; rfl
structure Nms (l : List Nat) : Prop where
  len : l.length = 6
  nd : l.Nodup
  lt : ∀ x ∈ l, x < 6
theorem Nms.of {l : List Nat} (h : l.Perm (List.range 6)) : Nms l := ⟨by simpa using h.length_eq, h.nodup_iff.mpr List.nodup_range, fun x hx => List.mem_range.mp (h.mem_iff.mp hx)⟩
theorem Nms.get_inj {l : List Nat} (h : Nms l) {i j : Nat} (hi : i < 6) (hj : j < 6) (e : l.getD i 0 = l.getD j 0) : i = j := by
  have hi' : i < l.length := by rw [h.len]; exact hi
  have hj' : j < l.length := by rw [h.len]; exact hj
  simp only [List.getD_eq_getElem?_getD, List.getElem?_eq_getElem hi', List.getElem?_eq_getElem hj', Option.getD_some] at e
  exact (List.getElem_inj h.nd).mp e
theorem Nms.get_lt {l : List Nat} (h : Nms l) {i : Nat} (hi : i < 6) : l.getD i 0 < 6 := by
  have hi' : i < l.length := by rw [h.len]; exact hi
  simp only [List.getD_eq_getElem?_getD, List.getElem?_eq_getElem hi', Option.getD_some]
  exact h.lt _ (List.getElem_mem _)
theorem nodup_map {α β : Type} {f : α → β} : ∀ {xs : List α}, xs.Nodup → (∀ a ∈ xs, ∀ b ∈ xs, f a = f b → a = b) → (xs.map f).Nodup
  | [], _, _ => by simp
  | x :: xs, h, hf => by
    have hx := List.nodup_cons.mp h
    rw [List.map_cons, List.nodup_cons]
    refine ⟨fun hm => ?_, nodup_map hx.2 fun a ha b hb => hf a (by simp [ha]) b (by simp [hb])⟩
    obtain ⟨y, hy, e⟩ := List.mem_map.mp hm
    have := hf y (by simp [hy]) x (by simp) e
    subst this
    exact hx.1 hy
theorem ren_bit {l : List Nat} (h : Nms l) (x i : Nat) (hi : i < 6) : (ren l x).testBit (l.getD i 0) = x.testBit i := by
  rw [ren_eq, testBit_sum]
  · rw [Bool.eq_iff_iff, decide_eq_true_eq, List.mem_map]
    constructor
    · rintro ⟨j, hj, e⟩
      have hj := mem_pin.mp hj
      have := h.get_inj hj.1 hi e
      subst this
      exact hj.2
    · exact fun hb => ⟨i, mem_pin.mpr ⟨hi, hb⟩, rfl⟩
  · exact nodup_map (pin_nodup x) fun a ha b hb e => h.get_inj (mem_pin.mp ha).1 (mem_pin.mp hb).1 e
theorem ren_lt {l : List Nat} (h : Nms l) (x : Nat) : ren l x < 64 := by
  apply Nat.lt_pow_two_of_testBit (n := 6)
  intro i hi
  rw [ren_eq, testBit_sum]
  · simp only [decide_eq_false_iff_not, List.mem_map, not_exists, not_and]
    intro j hj e
    have := h.get_lt (mem_pin.mp hj).1
    omega
  · exact nodup_map (pin_nodup x) fun a ha b hb e => h.get_inj (mem_pin.mp ha).1 (mem_pin.mp hb).1 e
theorem eq_of_bits {x y : Nat} (hx : x < 64) (hy : y < 64) (h : ∀ i < 6, x.testBit i = y.testBit i) : x = y := by
  apply Nat.eq_of_testBit_eq
  intro i
  by_cases hi : i < 6
  · exact h i hi
  · have e : ∀ z < 64, z.testBit i = false := fun z hz => Nat.testBit_lt_two_pow (Nat.lt_of_lt_of_le hz (by
      have : 2 ^ 6 ≤ 2 ^ i := Nat.pow_le_pow_right (by omega) (by omega)
      simpa using this))
    rw [e x hx, e y hy]
theorem ren_inj {l : List Nat} (h : Nms l) {x y : Nat} (hx : x < 64) (hy : y < 64) (e : ren l x = ren l y) : x = y :=
  eq_of_bits hx hy fun i hi => by rw [← ren_bit h x i hi, ← ren_bit h y i hi, e]
theorem ren_pos {l : List Nat} (h : Nms l) {x : Nat} (h0 : 0 < x) (hx : x < 64) : 0 < ren l x := by
  apply Nat.pos_of_ne_zero
  intro e
  have : x = 0 := eq_of_bits hx (by omega) fun i hi => by rw [← ren_bit h x i hi, e]; simp
  omega
theorem insN_asc (i : Nat) : ∀ {xs : List Nat}, xs.Pairwise (· < ·) → i ∉ xs → (insN i xs).Pairwise (· < ·)
  | [], _, _ => by simp [insN]
  | x :: xs, h, hi => by
    have hx := List.pairwise_cons.mp h
    simp only [insN]
    split
    · rename_i hle
      have hlt : i < x := by
        have : i ≠ x := fun e => hi (by simp [e])
        omega
      refine List.pairwise_cons.mpr ⟨fun y hy => ?_, h⟩
      rcases List.mem_cons.mp hy with rfl | hy
      · exact hlt
      · exact Nat.lt_trans hlt (hx.1 y hy)
    · rename_i hle
      refine List.pairwise_cons.mpr ⟨fun y hy => ?_, insN_asc i hx.2 fun hm => hi (by simp [hm])⟩
      rcases mem_insN.mp hy with rfl | hy
      · omega
      · exact hx.1 y hy
theorem sortN_asc : ∀ {xs : List Nat}, xs.Nodup → (sortN xs).Pairwise (· < ·)
  | [], _ => by simp [sortN]
  | x :: xs, h => by
    have hx := List.nodup_cons.mp h
    exact insN_asc x (sortN_asc hx.2) fun hm => hx.1 (mem_sortN.mp hm)
theorem fam_of {f l : List Nat} (hf : Fnd f) (hl : Nms l) (h1 : 1 ≤ f.length) (h8 : f.length ≤ 8) : Fam (sortN (f.map (ren l))) where
  asc := sortN_asc (nodup_map hf.nd fun a ha b hb e => ren_inj hl (hf.pos a ha).2 (hf.pos b hb).2 e)
  pos := fun x hx => by
    obtain ⟨y, hy, rfl⟩ := List.mem_map.mp (mem_sortN.mp hx)
    exact ⟨ren_pos hl (hf.pos y hy).1 (hf.pos y hy).2, ren_lt hl y⟩
  ne := by simpa [len_sortN] using h1
  le := by simpa [len_sortN] using h8
/-- what is no family -/
def oddL : List D := [.tuple [], .tuple [.int 0], .tuple [.int 3, .int 3], .tuple [.int 5, .int 3], .tuple [.int 64], .list [.int 3], .none, .int 3, .tuple [.bool true], .tuple [.int 1, .int 2, .int 3, .int 4, .int 5, .int 6, .int 7, .int 8, .int 9], .tuple [.str (Str.ofString "3")], .tuple [.int (-1)]]
theorem forL_fold {σ α : Type} {tg : Tg} {body : Ev → Out} {still : Ev → Bool} {g : α → D} (I : σ → Ev → Prop) (step : σ → α → σ) : ∀ (xs : List α),
    (∀ a ∈ xs, ∀ (s : σ) (ρ : Ev), I s ρ → ∃ ρ1 ρ2, bindT tg (g a) ρ = some ρ1 ∧ (body ρ1 = .nx ρ2 ∨ body ρ1 = .ct ρ2) ∧ still ρ2 = true ∧ I (step s a) ρ2) →
    ∀ (s : σ) (ρ : Ev), I s ρ → ∃ ρ', forL tg body still (xs.map g) ρ = .nx ρ' ∧ I (xs.foldl step s) ρ'
  | [], _, s, ρ, h => ⟨ρ, rfl, h⟩
  | a :: xs, h, s, ρ, hI => by
    obtain ⟨ρ1, ρ2, h1, h2, h3, h4⟩ := h a (by simp) s ρ hI
    obtain ⟨ρ', h5, h6⟩ := forL_fold I step xs (fun b hb => h b (by simp [hb])) (step s a) ρ2 h4
    refine ⟨ρ', ?_, h6⟩
    rw [List.map_cons, forL, h1]
    rcases h2 with h2 | h2 <;> simp only [h2, h3, if_true, h5]
/-- the parts of a set, what sets have in common with it, shattered sets, floors, cubes -/
def partsN (x : Nat) : List Nat := (List.range 64).filter fun i => i &&& x == i
def metN (fs : List Nat) (x : Nat) : List Nat := sortN (nubN (fs.map fun y => y &&& x))
def shN (fs : List Nat) : List Nat := (List.range 64).filter fun x => (metN fs x).length == 2 ^ size x
def flN (fs : List Nat) (x : Nat) : List Nat := ((List.range 64).filter fun l => l &&& x == 0).filter fun l => (partsN x).all fun p => decide ((l ||| p) ∈ fs)
def cuN (fs : List Nat) : List Nat := (List.range 64).filter fun x => decide (0 < (flN fs x).length)
def partsF (x : Nat) : List Nat := sortN ((pin x).foldl (fun f i => f ++ f.map fun y => y ||| 2 ^ i) [0])
theorem partsF_eq : ∀ x < 64, partsF x = partsN x := by decide +kernel
theorem met_len (fs : List Nat) (x : Nat) : (metN fs x).length ≤ fs.length := by
  have := len_nubN (fs.map fun y => y &&& x)
  simp [metN, len_sortN] at this ⊢
  omega
theorem nub_len8 {fs : List Nat} (h : fs.length ≤ 8) (f : Nat → Nat) : (nubN (fs.map f)).length < 64 := by
  have := len_nubN (fs.map f)
  simp at this
  omega
theorem bi_sset_app {α : Type} (f : α → Nat) (y : Nat) (xs : List α) (h : xs.length < 900) (h' : (nubN (xs.map f ++ [y])).length < 64) : biD .sset [.list ((xs.map fun a => .int (f a : Int)) ++ [.int (y : Int)])] = .ok (.list ((sortN (nubN (xs.map f ++ [y]))).map fun x : Nat => .int (x : Int))) := by
  have e : ((xs.map fun a => PyData.int (f a : Int)) ++ [PyData.int (y : Int)]) = (xs.map f ++ [y]).map fun x : Nat => PyData.int (x : Int) := by simp
  have := bi_sset (fun x : Nat => x) (xs.map f ++ [y]) (by simp; omega) (by rw [List.map_id']; exact h')
  rw [e, this, List.map_id']
def sets0 (free low : Nat) : List Nat := ((partsN free).filter fun p => decide (0 < (low - (low &&& free)) ||| p)).map fun p => (low - (low &&& free)) ||| p
theorem sets0_ok : ∀ free < 64, 1 ≤ size free → size free ≤ 3 → ∀ low < 64, famB (sets0 free low) = true := by decide +kernel
theorem three_ok : ∀ a < 6, ∀ b < 6, ∀ c < 6, (2 ^ a ||| 2 ^ b ||| 2 ^ c) < 64 ∧ 1 ≤ size (2 ^ a ||| 2 ^ b ||| 2 ^ c) ∧ size (2 ^ a ||| 2 ^ b ||| 2 ^ c) ≤ 3 := by decide +kernel
theorem two_ok : ∀ a < 6, ∀ b < 6, (partsN (2 ^ a ||| 2 ^ b)).length ≤ 4 := by decide +kernel
theorem nubN_nodup : ∀ xs : List Nat, (nubN xs).Nodup
  | [] => by simp [nubN]
  | x :: xs => by
    simp only [nubN]
    split
    · exact nubN_nodup xs
    · rename_i h
      rw [List.nodup_cons]
      refine ⟨fun hm => h ?_, nubN_nodup xs⟩
      rw [List.contains_iff_mem]
      exact mem_nubN.mp hm
def sets1 (pr top f0 : Nat) : List Nat := (sortN (nubN ((partsN pr).map (fun o => (o ^^^ top) &&& 63) ++ [f0]))).filter fun o => decide (0 < o)
theorem sets1_fam {pr top f0 : Nat} (h : (partsN pr).length ≤ 4) (h0 : 0 < f0) (h1 : f0 < 64) : Fam (sets1 pr top f0) where
  asc := (sortN_asc (nubN_nodup _)).filter _
  pos := fun x hx => by
    have hx := List.mem_filter.mp hx
    have hm := mem_nubN.mp (mem_sortN.mp hx.1)
    refine ⟨by simpa using hx.2, ?_⟩
    rcases List.mem_append.mp hm with hm | hm
    · obtain ⟨y, _, rfl⟩ := List.mem_map.mp hm
      exact Nat.lt_of_le_of_lt Nat.and_le_right (by decide)
    · simp at hm
      omega
  ne := by
    apply List.length_pos_iff.mpr
    exact List.ne_nil_of_mem (a := f0) (List.mem_filter.mpr ⟨mem_sortN.mpr (mem_nubN.mpr (by simp)), by simpa using h0⟩)
  le := by
    have h2 := List.length_filter_le (fun o => decide (0 < o)) (sortN (nubN ((partsN pr).map (fun o => (o ^^^ top) &&& 63) ++ [f0])))
    have h3 := len_nubN ((partsN pr).map (fun o => (o ^^^ top) &&& 63) ++ [f0])
    rw [len_sortN] at h2
    simp at h3
    simp only [sets1]
    omega
theorem draw_step (C : Cfg) (n : Nat) (ff : Bool) (a b c m : Int) (ha : smallI a = true) (hb : 0 < b) (hm : 0 < m) (sc : D) (seed cell : Int) : 
    evSs C n [] ff [.asg 1 (.op .mod (.bi .int [.op .add (.op .add (.op .mul (.var 1) (.int a)) (.op .mod (.bi .abs [.bi .int [.var 2]]) (.int b))) (.int c)]) (.int m))] [.sh sc, .sh (.int seed), .sh (.int cell)] = .nx [.sh sc, .sh (.int ((seed * a + (if cell < 0 then -cell else cell) % b + c) % m)), .sh (.int cell)] := by
  have hmul : opD .mul (.int seed) (.int a) = .ok (.int (seed * a)) := by simp only [opD, ha, Bool.or_true, if_true]
  simp (maxDischargeDepth := 9) [zipIdx_map', eraseIdx_map', tail_map', drop_map', take_map', -List.map_tail, -List.map_drop, -List.map_take, -getElem?_pos, -getElem?_neg, -Int.natCast_shiftRight, -Nat.and_one_is_mod, -Int.natCast_pow, -Nat.one_and_eq_mod_two, hmul, hb, hm]
theorem mod_nat (x m : Int) (hm : 0 < m) : ∃ v : Nat, x % m = v := ⟨_, (Int.toNat_of_nonneg (Int.emod_nonneg _ (by omega))).symm⟩
theorem draw_loop (C : Cfg) (n : Nat) (ff : Bool) (a b c m : Int) (ha : smallI a = true) (hb : 0 < b) (hm : 0 < m) (sc : D) : ∀ (xs : List Int) (seed : Nat) (x2 : Sl), isOw [x2] 0 = false → ∃ (v : Nat) (y2 : Sl), isOw [y2] 0 = false ∧
    forL (.nm 2) (evSs C n [] ff [.asg 1 (.op .mod (.bi .int [.op .add (.op .add (.op .mul (.var 1) (.int a)) (.op .mod (.bi .abs [.bi .int [.var 2]]) (.int b))) (.int c)]) (.int m))]) (fun _ => true) (xs.map PyData.int) [.sh sc, .sh (.int seed), x2] = .nx [.sh sc, .sh (.int v), y2]
  | [], seed, x2, h => ⟨seed, x2, h, rfl⟩
  | x :: xs, seed, x2, _ => by
    have e := draw_step C n ff a b c m ha hb hm sc (seed : Int) x
    obtain ⟨v, hv⟩ := mod_nat ((seed : Int) * a + (if x < 0 then -x else x) % b + c) m hm
    rw [hv] at e
    obtain ⟨w, y2, h, e2⟩ := draw_loop C n ff a b c m ha hb hm sc xs v (.sh (.int x)) rfl
    refine ⟨w, y2, h, ?_⟩
    rw [List.map_cons, forL, bindT_nm]
    simp only [List.set_cons_succ, List.set_cons_zero, e, if_true, e2]
end JK.JKS

end
section
set_option linter.all false
set_option autoImplicit false
/-! JkTree: families over n points as trees; shattered sets, cubes: Pajor, Dress, Bollobas and Radcliffe. -/
namespace JK.JKS
def FT : Nat → Type
  | 0 => Bool
  | n + 1 => FT n × FT n
namespace FT
def or : (n : Nat) → FT n → FT n → FT n
  | 0, a, b => Bool.or a b
  | n + 1, a, b => (or n a.1 b.1, or n a.2 b.2)
def and : (n : Nat) → FT n → FT n → FT n
  | 0, a, b => Bool.and a b
  | n + 1, a, b => (and n a.1 b.1, and n a.2 b.2)
def cnt : (n : Nat) → FT n → Nat
  | 0, a => Bool.toNat a
  | n + 1, a => cnt n a.1 + cnt n a.2
def le : (n : Nat) → FT n → FT n → Prop
  | 0, a, b => Bool.and a b = a
  | n + 1, a, b => le n a.1 b.1 ∧ le n a.2 b.2
def str : (n : Nat) → FT n → FT n
  | 0, a => a
  | n + 1, a => (str n (or n a.1 a.2), and n (str n a.1) (str n a.2))
def sstr : (n : Nat) → FT n → FT n
  | 0, a => a
  | n + 1, a => (or n (sstr n a.1) (sstr n a.2), sstr n (and n a.1 a.2))
theorem le_refl : ∀ {n} (a : FT n), le n a a
  | 0, a => by cases a <;> rfl
  | n + 1, a => ⟨le_refl a.1, le_refl a.2⟩
theorem le_trans : ∀ {n} {a b c : FT n}, le n a b → le n b c → le n a c
  | 0, a, b, c, h, g => by cases a <;> cases b <;> cases c <;> simp_all [le]
  | n + 1, a, b, c, h, g => ⟨le_trans h.1 g.1, le_trans h.2 g.2⟩
theorem le_antisymm : ∀ {n} {a b : FT n}, le n a b → le n b a → a = b
  | 0, a, b, h, g => by cases a <;> cases b <;> first | rfl | (simp [le] at h g)
  | n + 1, a, b, h, g => Prod.ext (le_antisymm h.1 g.1) (le_antisymm h.2 g.2)
theorem le_or_l : ∀ {n} (a b : FT n), le n a (or n a b)
  | 0, a, b => by cases a <;> cases b <;> rfl
  | n + 1, a, b => ⟨le_or_l a.1 b.1, le_or_l a.2 b.2⟩
theorem le_or_r : ∀ {n} (a b : FT n), le n b (or n a b)
  | 0, a, b => by cases a <;> cases b <;> rfl
  | n + 1, a, b => ⟨le_or_r a.1 b.1, le_or_r a.2 b.2⟩
theorem or_le : ∀ {n} {a b c : FT n}, le n a c → le n b c → le n (or n a b) c
  | 0, a, b, c, h, g => by cases a <;> cases b <;> cases c <;> simp_all [le, or]
  | n + 1, a, b, c, h, g => ⟨or_le h.1 g.1, or_le h.2 g.2⟩
theorem and_le_l : ∀ {n} (a b : FT n), le n (and n a b) a
  | 0, a, b => by cases a <;> cases b <;> rfl
  | n + 1, a, b => ⟨and_le_l a.1 b.1, and_le_l a.2 b.2⟩
theorem and_le_r : ∀ {n} (a b : FT n), le n (and n a b) b
  | 0, a, b => by cases a <;> cases b <;> rfl
  | n + 1, a, b => ⟨and_le_r a.1 b.1, and_le_r a.2 b.2⟩
theorem le_and : ∀ {n} {a b c : FT n}, le n c a → le n c b → le n c (and n a b)
  | 0, a, b, c, h, g => by cases a <;> cases b <;> cases c <;> simp_all [le, and]
  | n + 1, a, b, c, h, g => ⟨le_and h.1 g.1, le_and h.2 g.2⟩
theorem or_mono {n} {a b c d : FT n} (h : le n a c) (g : le n b d) : le n (or n a b) (or n c d) := or_le (le_trans h (le_or_l c d)) (le_trans g (le_or_r c d))
theorem and_mono {n} {a b c d : FT n} (h : le n a c) (g : le n b d) : le n (and n a b) (and n c d) := le_and (le_trans (and_le_l a b) h) (le_trans (and_le_r a b) g)
theorem cnt_le : ∀ {n} {a b : FT n}, le n a b → cnt n a ≤ cnt n b
  | 0, a, b, h => by cases a <;> cases b <;> simp_all [le, cnt]
  | n + 1, a, b, h => Nat.add_le_add (cnt_le h.1) (cnt_le h.2)
theorem cnt_eq : ∀ {n} {a b : FT n}, le n a b → cnt n b ≤ cnt n a → a = b
  | 0, a, b, h, g => by cases a <;> cases b <;> first | rfl | (simp [le] at h; done) | (simp [cnt] at g; done)
  | n + 1, a, b, h, g => by
    have h1 := cnt_le h.1
    have h2 := cnt_le h.2
    have g : cnt n b.1 + cnt n b.2 ≤ cnt n a.1 + cnt n a.2 := g
    exact Prod.ext (cnt_eq h.1 (by omega)) (cnt_eq h.2 (by omega))
theorem cnt_or_and : ∀ {n} (a b : FT n), cnt n (or n a b) + cnt n (and n a b) = cnt n a + cnt n b
  | 0, a, b => by cases a <;> cases b <;> rfl
  | n + 1, a, b => by
    have h1 := cnt_or_and a.1 b.1
    have h2 := cnt_or_and a.2 b.2
    simp only [cnt, or, and]
    omega
theorem str_mono : ∀ {n} {a b : FT n}, le n a b → le n (str n a) (str n b)
  | 0, a, b, h => h
  | n + 1, a, b, h => ⟨str_mono (or_mono h.1 h.2), and_mono (str_mono h.1) (str_mono h.2)⟩
theorem sstr_mono : ∀ {n} {a b : FT n}, le n a b → le n (sstr n a) (sstr n b)
  | 0, a, b, h => h
  | n + 1, a, b, h => ⟨or_mono (sstr_mono h.1) (sstr_mono h.2), sstr_mono (and_mono h.1 h.2)⟩
theorem or_str {n} (a b : FT n) : le n (or n (str n a) (str n b)) (str n (or n a b)) := or_le (str_mono (le_or_l a b)) (str_mono (le_or_r a b))
theorem or_sstr {n} (a b : FT n) : le n (or n (sstr n a) (sstr n b)) (sstr n (or n a b)) := or_le (sstr_mono (le_or_l a b)) (sstr_mono (le_or_r a b))
theorem str_and {n} (a b : FT n) : le n (str n (and n a b)) (and n (str n a) (str n b)) := le_and (str_mono (and_le_l a b)) (str_mono (and_le_r a b))
theorem sstr_and {n} (a b : FT n) : le n (sstr n (and n a b)) (and n (sstr n a) (sstr n b)) := le_and (sstr_mono (and_le_l a b)) (sstr_mono (and_le_r a b))
/-- a family shatters at least as many sets as it has (Pajor) -/
theorem cnt_str : ∀ {n} (a : FT n), cnt n a ≤ cnt n (str n a)
  | 0, a => Nat.le_refl _
  | n + 1, a => by
    have h1 := cnt_str a.1
    have h2 := cnt_str a.2
    have h3 := cnt_le (or_str a.1 a.2)
    have h4 := cnt_or_and (str n a.1) (str n a.2)
    simp only [cnt, str]
    omega
theorem cnt_sstr : ∀ {n} (a : FT n), cnt n (sstr n a) ≤ cnt n a
  | 0, a => Nat.le_refl _
  | n + 1, a => by
    have h1 := cnt_sstr a.1
    have h2 := cnt_sstr a.2
    have h3 := cnt_le (sstr_and a.1 a.2)
    have h4 := cnt_or_and (sstr n a.1) (sstr n a.2)
    simp only [cnt, sstr]
    omega
theorem sstr_le : ∀ {n} (a : FT n), le n (sstr n a) (str n a)
  | 0, a => le_refl (n := 0) a
  | n + 1, a => ⟨le_trans (or_mono (sstr_le a.1) (sstr_le a.2)) (or_str a.1 a.2), le_trans (sstr_le _) (str_and a.1 a.2)⟩
theorem ext_str : ∀ {n} (a : FT n), cnt n (str n a) = cnt n a → str n a = sstr n a
  | 0, a, _ => rfl
  | n + 1, a, h => by
    have h1 := cnt_str a.1
    have h2 := cnt_str a.2
    have h3 := cnt_le (or_str a.1 a.2)
    have h4 := cnt_or_and (str n a.1) (str n a.2)
    have h5 := cnt_or_and a.1 a.2
    have h6 := cnt_str (or n a.1 a.2)
    have h7 := cnt_str (and n a.1 a.2)
    have h8 := cnt_le (str_and a.1 a.2)
    simp only [cnt, str] at h
    have e1 := cnt_eq (or_str a.1 a.2) (by omega)
    have e2 := cnt_eq (str_and a.1 a.2) (by omega)
    have i1 := ext_str a.1 (by omega)
    have i2 := ext_str a.2 (by omega)
    have i3 := ext_str (and n a.1 a.2) (by omega)
    simp only [str, sstr]
    rw [← e1, ← e2, i3, i1, i2]
theorem ext_sstr : ∀ {n} (a : FT n), cnt n (sstr n a) = cnt n a → str n a = sstr n a
  | 0, a, _ => rfl
  | n + 1, a, h => by
    have h1 := cnt_sstr a.1
    have h2 := cnt_sstr a.2
    have h3 := cnt_le (sstr_and a.1 a.2)
    have h4 := cnt_or_and (sstr n a.1) (sstr n a.2)
    have h5 := cnt_or_and a.1 a.2
    have h6 := cnt_sstr (or n a.1 a.2)
    have h7 := cnt_sstr (and n a.1 a.2)
    have h8 := cnt_le (or_sstr a.1 a.2)
    simp only [cnt, sstr] at h
    have e1 := cnt_eq (or_sstr a.1 a.2) (by omega)
    have e2 := cnt_eq (sstr_and a.1 a.2) (by omega)
    have i1 := ext_sstr a.1 (by omega)
    have i2 := ext_sstr a.2 (by omega)
    have i3 := ext_sstr (or n a.1 a.2) (by omega)
    simp only [str, sstr]
    rw [e1, e2, i3, i1, i2]
theorem ext_iff {n} (a : FT n) : cnt n (sstr n a) = cnt n a ↔ cnt n (str n a) = cnt n a :=
  ⟨fun h => by rw [ext_sstr a h, h], fun h => by rw [← ext_str a h, h]⟩
/-! ### members -/
def get : (n : Nat) → FT n → Nat → Bool
  | 0, a, _ => a
  | n + 1, a, x => if x % 2 = 0 then get n a.1 (x / 2) else get n a.2 (x / 2)
def ofS : (n : Nat) → (Nat → Bool) → FT n
  | 0, S => S 0
  | n + 1, S => (ofS n fun y => S (2 * y), ofS n fun y => S (2 * y + 1))
theorem get_ofS : ∀ {n} (S : Nat → Bool) (x : Nat), x < 2 ^ n → get n (ofS n S) x = S x
  | 0, S, x, h => by
    have : x = 0 := by simpa using h
    subst this; rfl
  | n + 1, S, x, h => by
    have hx : x / 2 < 2 ^ n := by rw [Nat.pow_succ] at h; omega
    simp only [get, ofS]
    split
    · rw [get_ofS _ _ hx]
      congr 1; omega
    · rw [get_ofS _ _ hx]
      congr 1; omega
theorem countP_two (S : Nat → Bool) : ∀ m, (List.range (2 * m)).countP S = (List.range m).countP (fun y => S (2 * y)) + (List.range m).countP (fun y => S (2 * y + 1))
  | 0 => rfl
  | m + 1 => by
    have ih := countP_two S m
    rw [show 2 * (m + 1) = 2 * m + 1 + 1 from by omega, List.range_succ, List.range_succ, List.range_succ]
    simp only [List.countP_append, ih, List.countP_singleton]
    omega
theorem cnt_get : ∀ {n} (a : FT n), cnt n a = (List.range (2 ^ n)).countP (get n a)
  | 0, a => by cases a <;> rfl
  | n + 1, a => by
    rw [Nat.pow_succ, Nat.mul_comm, countP_two]
    simp only [cnt, cnt_get a.1, cnt_get a.2]
    congr 1
    · apply List.countP_congr
      intro x _
      simp [get]
    · apply List.countP_congr
      intro x _
      have h1 : (2 * x + 1) % 2 = 1 := by omega
      have h2 : (2 * x + 1) / 2 = x := by omega
      simp [get, h1, h2]
theorem get_or : ∀ {n} (a b : FT n) (x : Nat), get n (or n a b) x = (get n a x || get n b x)
  | 0, a, b, x => rfl
  | n + 1, a, b, x => by
    simp only [get, or]
    split <;> exact get_or ..
theorem get_and : ∀ {n} (a b : FT n) (x : Nat), get n (and n a b) x = (get n a x && get n b x)
  | 0, a, b, x => rfl
  | n + 1, a, b, x => by
    simp only [get, and]
    split <;> exact get_and ..
theorem get_le : ∀ {n} {a b : FT n}, le n a b → ∀ x, get n a x = true → get n b x = true
  | 0, a, b, h, x, g => by cases a <;> cases b <;> simp_all [le, get]
  | n + 1, a, b, h, x, g => by
    simp only [get] at g ⊢
    split <;> rename_i c <;> simp only [c, if_true, if_false] at g
    · exact get_le h.1 _ g
    · exact get_le h.2 _ g
theorem and_two (x y : Nat) : (x &&& y) % 2 = (x % 2) * (y % 2) := by
  have h1 := @Nat.and_mod_two_eq_one x y
  have hx : x % 2 = 0 ∨ x % 2 = 1 := by omega
  have hy : y % 2 = 0 ∨ y % 2 = 1 := by omega
  have h0 : (x &&& y) % 2 = 0 ∨ (x &&& y) % 2 = 1 := by omega
  rcases hx with hx | hx <;> rcases hy with hy | hy <;> rw [hx, hy] <;> omega
theorem and_half (x y : Nat) : (x &&& y) / 2 = x / 2 &&& y / 2 := Nat.and_div_two ..
theorem and_eq_iff {x y z : Nat} : x &&& y = z ↔ (x / 2 &&& y / 2 = z / 2 ∧ (x % 2) * (y % 2) = z % 2) := by
  rw [← and_half, ← and_two]
  omega
/-- a set is shattered -/
theorem get_str : ∀ {n} (a : FT n) (x : Nat), x < 2 ^ n → (get n (str n a) x = true ↔ ∀ p, p &&& x = p → ∃ y, y < 2 ^ n ∧ get n a y = true ∧ y &&& x = p)
  | 0, a, x, h => by
    have : x = 0 := by simpa using h
    subst this
    constructor
    · intro g p hp
      exact ⟨0, by simp, g, by simpa using hp⟩
    · intro g
      obtain ⟨y, _, g, _⟩ := g 0 (by simp)
      exact g
  | n + 1, a, x, h => by
    have hx : x / 2 < 2 ^ n := by rw [Nat.pow_succ] at h; omega
    have hp2 : 2 ^ (n + 1) = 2 * 2 ^ n := by rw [Nat.pow_succ]; omega
    by_cases c : x % 2 = 0
    · simp only [get, str, c, if_true]
      rw [get_str _ _ hx]
      constructor
      · intro g p hp
        have hp' := and_eq_iff.mp hp
        rw [c] at hp'
        obtain ⟨y, hy, g1, g2⟩ := g (p / 2) hp'.1
        rw [get_or, Bool.or_eq_true] at g1
        rcases g1 with g1 | g1
        · refine ⟨2 * y, by omega, ?_, and_eq_iff.mpr ?_⟩
          · rw [if_pos (by omega), show 2 * y / 2 = y by omega]; exact g1
          · rw [show 2 * y / 2 = y by omega, c]
            exact ⟨g2, by omega⟩
        · refine ⟨2 * y + 1, by omega, ?_, and_eq_iff.mpr ?_⟩
          · rw [if_neg (by omega), show (2 * y + 1) / 2 = y by omega]; exact g1
          · rw [show (2 * y + 1) / 2 = y by omega, c]
            exact ⟨g2, by omega⟩
      · intro g p hp
        obtain ⟨y, hy, g1, g2⟩ := g (2 * p) (and_eq_iff.mpr (by rw [show 2 * p / 2 = p by omega, c]; exact ⟨hp, by omega⟩))
        have g2 := and_eq_iff.mp g2
        rw [show 2 * p / 2 = p by omega] at g2
        refine ⟨y / 2, by omega, ?_, g2.1⟩
        rw [get_or, Bool.or_eq_true]
        split at g1
        · exact .inl g1
        · exact .inr g1
    · have c1 : x % 2 = 1 := by omega
      simp only [get, str, c, if_false]
      rw [get_and, Bool.and_eq_true, get_str _ _ hx, get_str _ _ hx]
      constructor
      · intro g p hp
        have hp' := and_eq_iff.mp hp
        by_cases d : p % 2 = 0
        · obtain ⟨y, hy, g1, g2⟩ := g.1 (p / 2) hp'.1
          refine ⟨2 * y, by omega, ?_, and_eq_iff.mpr ?_⟩
          · rw [if_pos (by omega), show 2 * y / 2 = y by omega]; exact g1
          · rw [show 2 * y / 2 = y by omega, c1]
            exact ⟨g2, by omega⟩
        · obtain ⟨y, hy, g1, g2⟩ := g.2 (p / 2) hp'.1
          refine ⟨2 * y + 1, by omega, ?_, and_eq_iff.mpr ?_⟩
          · rw [if_neg (by omega), show (2 * y + 1) / 2 = y by omega]; exact g1
          · rw [show (2 * y + 1) / 2 = y by omega, c1]
            exact ⟨g2, by omega⟩
      · intro g
        constructor
        · intro p hp
          obtain ⟨y, hy, g1, g2⟩ := g (2 * p) (and_eq_iff.mpr (by rw [show 2 * p / 2 = p by omega, c1]; exact ⟨hp, by omega⟩))
          have g2 := and_eq_iff.mp g2
          rw [show 2 * p / 2 = p by omega, c1] at g2
          refine ⟨y / 2, by omega, ?_, g2.1⟩
          rw [if_pos (by omega)] at g1
          exact g1
        · intro p hp
          obtain ⟨y, hy, g1, g2⟩ := g (2 * p + 1) (and_eq_iff.mpr (by rw [show (2 * p + 1) / 2 = p by omega, c1]; exact ⟨hp, by omega⟩))
          have g2 := and_eq_iff.mp g2
          rw [show (2 * p + 1) / 2 = p by omega, c1] at g2
          refine ⟨y / 2, by omega, ?_, g2.1⟩
          rw [if_neg (by omega)] at g1
          exact g1
theorem or_two (x y : Nat) : (x ||| y) % 2 = if x % 2 = 0 ∧ y % 2 = 0 then 0 else 1 := by
  have h1 := @Nat.or_mod_two_eq_one x y
  split
  · rename_i h
    have : ¬ (x ||| y) % 2 = 1 := by rw [h1]; omega
    omega
  · rename_i h
    exact h1.mpr (by omega)
theorem or_half (x y : Nat) : (x ||| y) / 2 = x / 2 ||| y / 2 := Nat.or_div_two ..
theorem low_two {l x : Nat} : l &&& x = 0 ↔ (l / 2 &&& x / 2 = 0 ∧ (l % 2) * (x % 2) = 0) := and_eq_iff
/-- a set has a cube -/
theorem get_sstr : ∀ {n} (a : FT n) (x : Nat), x < 2 ^ n → (get n (sstr n a) x = true ↔ ∃ l, l < 2 ^ n ∧ l &&& x = 0 ∧ ∀ p, p &&& x = p → get n a (l ||| p) = true)
  | 0, a, x, h => by
    have : x = 0 := by simpa using h
    subst this
    constructor
    · intro g
      exact ⟨0, by simp, by simp, fun p hp => g⟩
    · rintro ⟨l, _, _, g⟩
      exact g 0 (by simp)
  | n + 1, a, x, h => by
    have hx : x / 2 < 2 ^ n := by rw [Nat.pow_succ] at h; omega
    have hp2 : 2 ^ (n + 1) = 2 * 2 ^ n := by rw [Nat.pow_succ]; omega
    by_cases c : x % 2 = 0
    · simp only [get, sstr, c, if_true]
      rw [get_or, Bool.or_eq_true, get_sstr _ _ hx, get_sstr _ _ hx]
      constructor
      · rintro (⟨l, hl, g1, g2⟩ | ⟨l, hl, g1, g2⟩)
        · refine ⟨2 * l, by omega, low_two.mpr (by rw [show 2 * l / 2 = l by omega, c]; exact ⟨g1, by omega⟩), fun p hp => ?_⟩
          have hp' := and_eq_iff.mp hp
          rw [c] at hp'
          have e : (2 * l ||| p) % 2 = 0 := by rw [or_two, if_pos (by omega)]
          rw [if_pos e, or_half, show 2 * l / 2 = l by omega]
          exact g2 _ hp'.1
        · refine ⟨2 * l + 1, by omega, low_two.mpr (by rw [show (2 * l + 1) / 2 = l by omega, c]; exact ⟨g1, by omega⟩), fun p hp => ?_⟩
          have hp' := and_eq_iff.mp hp
          rw [c] at hp'
          have e : (2 * l + 1 ||| p) % 2 = 1 := by rw [or_two, if_neg (by omega)]
          rw [if_neg (by omega), or_half, show (2 * l + 1) / 2 = l by omega]
          exact g2 _ hp'.1
      · rintro ⟨l, hl, g1, g2⟩
        have g1 := low_two.mp g1
        by_cases d : l % 2 = 0
        · refine .inl ⟨l / 2, by omega, g1.1, fun p hp => ?_⟩
          have := g2 (2 * p) (and_eq_iff.mpr (by rw [show 2 * p / 2 = p by omega, c]; exact ⟨hp, by omega⟩))
          rw [if_pos (by rw [or_two, if_pos (by omega)]), or_half, show 2 * p / 2 = p by omega] at this
          exact this
        · refine .inr ⟨l / 2, by omega, g1.1, fun p hp => ?_⟩
          have := g2 (2 * p) (and_eq_iff.mpr (by rw [show 2 * p / 2 = p by omega, c]; exact ⟨hp, by omega⟩))
          rw [if_neg (by rw [or_two, if_neg (by omega)]; decide), or_half, show 2 * p / 2 = p by omega] at this
          exact this
    · have c1 : x % 2 = 1 := by omega
      simp only [get, sstr, c, if_false]
      rw [get_sstr _ _ hx]
      constructor
      · rintro ⟨l, hl, g1, g2⟩
        refine ⟨2 * l, by omega, low_two.mpr (by rw [show 2 * l / 2 = l by omega]; exact ⟨g1, by rw [show 2 * l % 2 = 0 by omega]; omega⟩), fun p hp => ?_⟩
        have hp' := and_eq_iff.mp hp
        have := g2 _ hp'.1
        rw [get_and, Bool.and_eq_true] at this
        rw [or_half, show 2 * l / 2 = l by omega]
        split
        · exact this.1
        · exact this.2
      · rintro ⟨l, hl, g1, g2⟩
        have g1 := low_two.mp g1
        rw [c1] at g1
        refine ⟨l / 2, by omega, g1.1, fun p hp => ?_⟩
        have h0 := g2 (2 * p) (and_eq_iff.mpr (by rw [show 2 * p / 2 = p by omega, c1]; exact ⟨hp, by omega⟩))
        have h1 := g2 (2 * p + 1) (and_eq_iff.mpr (by rw [show (2 * p + 1) / 2 = p by omega, c1]; exact ⟨hp, by omega⟩))
        rw [if_pos (by rw [or_two, if_pos (by omega)]), or_half, show 2 * p / 2 = p by omega] at h0
        rw [if_neg (by rw [or_two, if_neg (by omega)]; decide), or_half, show (2 * p + 1) / 2 = p by omega] at h1
        rw [get_and, h0, h1]
        rfl
end FT
end JK.JKS

end
section
set_option linter.all false
set_option autoImplicit false
set_option maxRecDepth 100000
/-! JkMath: shattered sets and cubes of families. -/
namespace JK.JKS
theorem len_le_of_subset : ∀ {l1 l2 : List Nat}, l1.Nodup → (∀ x ∈ l1, x ∈ l2) → l1.length ≤ l2.length
  | [], _, _, _ => Nat.zero_le _
  | x :: l1, l2, h, hs => by
    have hx := List.nodup_cons.mp h
    have hm : x ∈ l2 := hs x (by simp)
    have := len_le_of_subset (l1 := l1) (l2 := l2.erase x) hx.2 fun y hy => by
      have hne : y ≠ x := fun e => hx.1 (e ▸ hy)
      exact (List.mem_erase_of_ne hne).mpr (hs y (by simp [hy]))
    rw [List.length_erase_of_mem hm] at this
    have : 0 < l2.length := List.length_pos_of_mem hm
    simp
    omega
theorem subset_of_len {l1 l2 : List Nat} (h : l1.Nodup) (hs : ∀ x ∈ l1, x ∈ l2) (hl : l2.length ≤ l1.length) : ∀ x ∈ l2, x ∈ l1 := fun x hx =>
  Classical.byContradiction fun hn => by
    have := len_le_of_subset (l1 := x :: l1) (l2 := l2) (List.nodup_cons.mpr ⟨hn, h⟩) fun y hy => by
      rcases List.mem_cons.mp hy with rfl | hy
      · exact hx
      · exact hs y hy
    simp at this
    omega
theorem Fam.nd {fs : List Nat} (h : Fam fs) : fs.Nodup := h.asc.imp fun h => Nat.ne_of_lt h
theorem asc_nodup {fs : List Nat} (h : fs.Pairwise (· < ·)) : fs.Nodup := h.imp fun h => Nat.ne_of_lt h
/-- the tree of a family -/
def tr (fs : List Nat) : FT 6 := FT.ofS 6 fun x => decide (x ∈ fs)
theorem tr_cnt {fs : List Nat} (h : fs.Nodup) (h2 : ∀ x ∈ fs, x < 64) : FT.cnt 6 (tr fs) = fs.length := by
  rw [FT.cnt_get, List.countP_eq_length_filter]
  have hn : ((List.range (2 ^ 6)).filter (FT.get 6 (tr fs))).Nodup := List.nodup_range.filter _
  have hm : ∀ x, x ∈ (List.range (2 ^ 6)).filter (FT.get 6 (tr fs)) ↔ x ∈ fs := fun x => by
    rw [List.mem_filter, List.mem_range]
    constructor
    · rintro ⟨h, g⟩
      rw [tr, FT.get_ofS _ _ h] at g
      simpa using g
    · intro hx
      have := h2 x hx
      refine ⟨this, ?_⟩
      rw [tr, FT.get_ofS _ _ this]
      simpa using hx
  exact Nat.le_antisymm (len_le_of_subset hn fun x hx => (hm x).mp hx) (len_le_of_subset h fun x hx => (hm x).mpr hx)
theorem mem_met {fs : List Nat} {x p : Nat} : p ∈ metN fs x ↔ ∃ y ∈ fs, y &&& x = p := by
  simp [metN, mem_sortN, mem_nubN]
theorem met_asc (fs : List Nat) (x : Nat) : (metN fs x).Pairwise (· < ·) := sortN_asc (nubN_nodup _)
theorem met_nodup (fs : List Nat) (x : Nat) : (metN fs x).Nodup := asc_nodup (met_asc fs x)
theorem mem_parts {x p : Nat} (hx : x < 64) : p ∈ partsN x ↔ p &&& x = p := by
  simp only [partsN, List.mem_filter, List.mem_range, beq_iff_eq]
  exact ⟨fun h => h.2, fun h => ⟨by rw [← h]; exact Nat.lt_of_le_of_lt Nat.and_le_right hx, h⟩⟩
theorem parts_len : ∀ x < 64, (partsN x).length = 2 ^ size x := by decide +kernel
theorem parts_nodup (x : Nat) : (partsN x).Nodup := List.nodup_range.filter _
theorem met_sub {fs : List Nat} {x p : Nat} (hx : x < 64) (h : p ∈ metN fs x) : p ∈ partsN x := by
  obtain ⟨y, _, rfl⟩ := mem_met.mp h
  rw [mem_parts hx, Nat.and_assoc, Nat.and_self]
theorem met_full {fs : List Nat} {x : Nat} (hx : x < 64) : (metN fs x).length = 2 ^ size x ↔ ∀ p, p &&& x = p → ∃ y ∈ fs, y &&& x = p := by
  rw [← parts_len x hx]
  constructor
  · intro h p hp
    exact mem_met.mp (subset_of_len (met_nodup fs x) (fun p hp => met_sub hx hp) (by omega) p ((mem_parts hx).mpr hp))
  · intro h
    exact Nat.le_antisymm (len_le_of_subset (met_nodup fs x) fun p hp => met_sub hx hp) (len_le_of_subset (parts_nodup x) fun p hp => mem_met.mpr (h p ((mem_parts hx).mp hp)))
theorem get_tr {fs : List Nat} {x : Nat} (h : x < 64) : FT.get 6 (tr fs) x = decide (x ∈ fs) := FT.get_ofS _ _ h
theorem get_sh {fs : List Nat} (h64 : ∀ x ∈ fs, x < 64) {x : Nat} (hx : x < 64) : FT.get 6 (FT.str 6 (tr fs)) x = ((metN fs x).length == 2 ^ size x) := by
  rw [Bool.eq_iff_iff, beq_iff_eq, met_full hx, FT.get_str _ _ hx]
  constructor
  · intro g p hp
    obtain ⟨y, hy, g1, g2⟩ := g p hp
    rw [get_tr hy] at g1
    exact ⟨y, by simpa using g1, g2⟩
  · intro g p hp
    obtain ⟨y, hy, g2⟩ := g p hp
    exact ⟨y, h64 y hy, by rw [get_tr (h64 y hy)]; simpa using hy, g2⟩
theorem mem_fl {fs : List Nat} {x l : Nat} (hx : x < 64) : l ∈ flN fs x ↔ l < 64 ∧ l &&& x = 0 ∧ ∀ p, p &&& x = p → (l ||| p) ∈ fs := by
  simp only [flN, List.mem_filter, List.mem_range, beq_iff_eq, List.all_eq_true, decide_eq_true_eq, and_assoc]
  exact and_congr_right fun _ => and_congr_right fun _ => ⟨fun h p hp => h p ((mem_parts hx).mpr hp), fun h p hp => h p ((mem_parts hx).mp hp)⟩
theorem get_cu {fs : List Nat} {x : Nat} (hx : x < 64) : FT.get 6 (FT.sstr 6 (tr fs)) x = decide (0 < (flN fs x).length) := by
  rw [Bool.eq_iff_iff, decide_eq_true_eq, FT.get_sstr _ _ hx]
  have hlt : ∀ l p, l < 64 → p &&& x = p → l ||| p < 2 ^ 6 := fun l p hl hp => Nat.or_lt_two_pow (n := 6) hl (by rw [← hp]; exact Nat.lt_of_le_of_lt Nat.and_le_right hx)
  constructor
  · rintro ⟨l, hl, g1, g2⟩
    exact List.length_pos_of_mem ((mem_fl hx).mpr ⟨hl, g1, fun p hp => by
      have := g2 p hp
      rw [get_tr (hlt l p hl hp)] at this
      simpa using this⟩)
  · intro h
    obtain ⟨l, hl⟩ := List.exists_mem_of_length_pos h
    obtain ⟨h1, h2, h3⟩ := (mem_fl hx).mp hl
    exact ⟨l, h1, h2, fun p hp => by
      rw [get_tr (hlt l p h1 hp)]
      simpa using h3 p hp⟩
theorem sh_len {fs : List Nat} (h64 : ∀ x ∈ fs, x < 64) : (shN fs).length = FT.cnt 6 (FT.str 6 (tr fs)) := by
  rw [FT.cnt_get, shN, ← List.countP_eq_length_filter]
  exact List.countP_congr fun x hx => by rw [get_sh h64 (List.mem_range.mp hx)]
theorem cu_len (fs : List Nat) : (cuN fs).length = FT.cnt 6 (FT.sstr 6 (tr fs)) := by
  rw [FT.cnt_get, cuN, ← List.countP_eq_length_filter]
  exact List.countP_congr fun x hx => by rw [get_cu (List.mem_range.mp hx)]
section
variable {fs : List Nat} (hF : Fam fs)
include hF
theorem Fam.lt : ∀ x ∈ fs, x < 64 := fun x hx => (hF.pos x hx).2
theorem sh_ge : fs.length ≤ (shN fs).length := by
  rw [sh_len hF.lt, ← tr_cnt hF.nd hF.lt]
  exact FT.cnt_str _
theorem cu_le : (cuN fs).length ≤ fs.length := by
  rw [cu_len, ← tr_cnt hF.nd hF.lt]
  exact FT.cnt_sstr _
theorem cu_sh : ∀ x ∈ cuN fs, x ∈ shN fs := fun x hx => by
  have hx := List.mem_filter.mp hx
  have h := List.mem_range.mp hx.1
  refine List.mem_filter.mpr ⟨hx.1, ?_⟩
  rw [← get_sh hF.lt h]
  exact FT.get_le (FT.sstr_le _) x (by rw [get_cu h]; exact hx.2)
theorem cu_iff : (cuN fs).length = fs.length ↔ (shN fs).length = fs.length := by
  rw [cu_len, sh_len hF.lt, ← tr_cnt hF.nd hF.lt]
  exact FT.ext_iff _
theorem cu_ne : 0 < (cuN fs).length := by
  obtain ⟨y, hy⟩ := List.exists_mem_of_length_pos hF.ne
  have : 0 ∈ cuN fs := by
    refine List.mem_filter.mpr ⟨by simp, ?_⟩
    simp only [decide_eq_true_eq]
    refine List.length_pos_of_mem (a := y) ((mem_fl (by decide)).mpr ⟨hF.lt y hy, by simp, fun p hp => ?_⟩)
    have : p = 0 := by simpa using hp.symm
    subst this
    simpa using hy
  exact List.length_pos_of_mem this
end
/-! ### parts that are not met, breadth, growth -/
def goneN (fs : List Nat) (x : Nat) : List Nat := (partsN x).filter fun p => decide (p ∉ metN fs x)
def wideN (fs : List Nat) : Nat := maxN ((shN fs).map size)
def rowN (fs : List Nat) (u s : Nat) : Nat := maxN (((partsN u).filter fun i => size i == s).map fun i => (metN fs i).length)
def rowsN (fs : List Nat) (u : Nat) : List Nat := (List.range (size u + 1)).map (rowN fs u)
def chN (m k : Nat) : Nat := (List.range k).foldl (fun f i => f * (m - i) / (i + 1)) 1
def bndN (w s : Nat) : Nat := ((List.range (w + 1)).map (chN s)).sum
theorem rows_ne : ∀ u < 64, ∀ s < size u + 1, ((partsN u).filter fun i => size i == s) ≠ [] := by decide +kernel
theorem bnd_ok : ∀ i < 64, ∀ w < 7, ((partsN i).filter fun p => decide (size p ≤ w)).length ≤ bndN w (size i) := by decide +kernel
theorem size_le (x : Nat) : size x ≤ 6 := by
  have := List.length_filter_le (fun i => x.testBit i) (List.range 6)
  simpa [size, pin] using this
theorem gone_iff {fs : List Nat} {x : Nat} (hx : x < 64) : goneN fs x = [] ↔ x ∈ shN fs := by
  have h : x ∈ shN fs ↔ (metN fs x).length = 2 ^ size x := by
    simp only [shN, List.mem_filter, List.mem_range, beq_iff_eq]
    exact ⟨fun h => h.2, fun h => ⟨hx, h⟩⟩
  rw [h, met_full hx, goneN, List.filter_eq_nil_iff]
  constructor
  · intro g p hp
    have := g p ((mem_parts hx).mpr hp)
    simp only [decide_eq_true_eq, Classical.not_not] at this
    exact mem_met.mp this
  · intro g p hp
    have := g p ((mem_parts hx).mp hp)
    simp only [decide_eq_true_eq, Classical.not_not]
    exact mem_met.mpr this
theorem mem_gone {fs : List Nat} {x v : Nat} (hx : x < 64) : v ∈ goneN fs x ↔ (v &&& x = v ∧ v ∉ metN fs x) := by
  simp only [goneN, List.mem_filter, mem_parts hx, decide_eq_true_eq]
theorem met_bound {fs : List Nat} (i : Nat) (hi : i < 64) : (metN fs i).length ≤ bndN (wideN fs) (size i) := by
  have h64 : ∀ x ∈ metN fs i, x < 64 := fun x hx => by
    have := (mem_parts hi).mp (met_sub hi hx)
    rw [← this]
    exact Nat.lt_of_le_of_lt Nat.and_le_right hi
  have h1 : (metN fs i).length ≤ (shN (metN fs i)).length := by
    rw [sh_len h64, ← tr_cnt (met_nodup fs i) h64]
    exact FT.cnt_str _
  have hw : wideN fs ≤ 6 := maxN_le fun x hx => by
    obtain ⟨y, _, rfl⟩ := List.mem_map.mp hx
    exact size_le y
  refine Nat.le_trans h1 (Nat.le_trans (len_le_of_subset (List.nodup_range.filter _) fun x hx => ?_) (bnd_ok i hi (wideN fs) (by omega)))
  have hx' := List.mem_filter.mp hx
  have hx64 := List.mem_range.mp hx'.1
  have hf := (met_full (fs := metN fs i) hx64).mp (by simpa using hx'.2)
  obtain ⟨y, hy, e⟩ := hf x (Nat.and_self x)
  obtain ⟨z, hz, rfl⟩ := mem_met.mp hy
  have hxi : x &&& i = x := by
    rw [← e, Nat.and_assoc, Nat.and_comm x i, ← Nat.and_assoc (z &&& i), Nat.and_assoc z, Nat.and_self]
  refine List.mem_filter.mpr ⟨(mem_parts hi).mpr hxi, ?_⟩
  simp only [decide_eq_true_eq]
  refine le_maxN (List.mem_map.mpr ⟨x, List.mem_filter.mpr ⟨hx'.1, ?_⟩, rfl⟩)
  rw [beq_iff_eq, met_full hx64]
  intro p hp
  obtain ⟨y, hy, e⟩ := hf p hp
  obtain ⟨z, hz, rfl⟩ := mem_met.mp hy
  exact ⟨z, hz, by rw [← e, Nat.and_assoc, Nat.and_comm i x, hxi]⟩
theorem row_bound {fs : List Nat} {u s : Nat} (hu : u < 64) : rowN fs u s ≤ bndN (wideN fs) s := by
  refine maxN_le fun x hx => ?_
  obtain ⟨i, hi, rfl⟩ := List.mem_map.mp hx
  have hi := List.mem_filter.mp hi
  have h64 : i < 64 := by
    have := (mem_parts hu).mp hi.1
    rw [← this]
    exact Nat.lt_of_le_of_lt Nat.and_le_right hu
  have := met_bound (fs := fs) i h64
  rwa [beq_iff_eq.mp hi.2] at this
theorem sh_ne {fs : List Nat} (hF : Fam fs) : shN fs ≠ [] := by
  have h1 := sh_ge hF
  have h2 := hF.ne
  intro e
  rw [e, List.length_nil] at h1
  omega
theorem uni_lt : ∀ {fs : List Nat} {a : Nat}, a < 64 → (∀ x ∈ fs, x < 64) → fs.foldl (fun a b => a ||| b) a < 64
  | [], a, h, _ => h
  | x :: fs, a, h, hx => uni_lt (fs := fs) (Nat.or_lt_two_pow (n := 6) h (hx x (by simp))) fun y hy => hx y (by simp [hy])
theorem uni_bit (fs : List Nat) (a : Nat) : (uni fs).testBit a = fs.any fun b => b.testBit a := by
  have key : ∀ (fs : List Nat) (z : Nat), (fs.foldl (fun a b => a ||| b) z).testBit a = (z.testBit a || fs.any fun b => b.testBit a) := by
    intro fs
    induction fs with
    | nil => intro z; simp
    | cons x fs ih => intro z; simp [ih, Bool.or_assoc]
  rw [uni, key]
  simp
theorem setof_pin : ∀ u < 64, (pin u).foldl (fun a i => a ||| 2 ^ i) 0 = u := by decide +kernel
end JK.JKS

end
section
set_option linter.all false
set_option autoImplicit false
set_option maxRecDepth 100000
/-! JkPal: rows of colours. -/
namespace JK.JKS
def tupN (r : List Nat) : D := .tuple (r.map fun x : Nat => .int (x : Int))
def mxN (r : List Nat) : Nat := if r = [] then 1 else maxN r + 2
def rgN : Nat → List (List Nat)
  | 0 => [[]]
  | n + 1 => ((rgN n).map fun row => (List.range (mxN row)).map fun c => row ++ [c]).flatten
def newN : Nat → List (List Nat)
  | 0 => [[]]
  | n + 1 => ((newN n).map fun row => (List.range ((nubN row).length + 1)).map fun c => row ++ [c]).flatten
theorem rg_new : ∀ n < 7, rgN n = newN n := by decide +kernel
theorem rg_ok : ∀ n < 7, (∀ r ∈ rgN n, r.length = n ∧ mxN r ≤ 100 ∧ maxN r < 6) ∧ (rgN n).length ≤ 203 := by decide +kernel
/-- the colours seen in a set -/
def seenN (pts row : List Nat) (it : Nat) : List Nat := ((List.range pts.length).filter fun k => it.testBit (pts.getD k 0)).map fun k => row.getD k 0
def showsN (fs pts row : List Nat) (m : Nat) : Bool := fs.all fun it => decide (m ≤ (nubN (seenN pts row it)).length)
def lshowsN (fs pts row : List Nat) (m : Nat) : Bool := fs.all fun it => (List.range m).all fun c => decide (c ∈ seenN pts row it)
theorem nub_all {xs : List Nat} {m : Nat} (h : ∀ x ∈ xs, x < m) : m ≤ (nubN xs).length ↔ ∀ c < m, c ∈ xs := by
  constructor
  · intro hl c hc
    have := subset_of_len (l1 := nubN xs) (l2 := List.range m) (nubN_nodup xs) (fun x hx => List.mem_range.mpr (h x (mem_nubN.mp hx))) (by simpa using hl) c (List.mem_range.mpr hc)
    exact mem_nubN.mp this
  · intro ha
    have := len_le_of_subset (l1 := List.range m) (l2 := nubN xs) List.nodup_range fun x hx => mem_nubN.mpr (ha x (List.mem_range.mp hx))
    simpa using this
theorem shows_eq {fs pts row : List Nat} {m : Nat} (hm : 0 < m) (h : ∀ x ∈ row, x < m) : showsN fs pts row m = lshowsN fs pts row m := by
  unfold showsN lshowsN
  congr 1; funext it
  rw [Bool.eq_iff_iff, decide_eq_true_eq, nub_all, List.all_eq_true]
  · simp only [List.mem_range, decide_eq_true_eq]
  · intro x hx
    obtain ⟨k, _, rfl⟩ := List.mem_map.mp hx
    by_cases hk : k < row.length
    · rw [List.getD_eq_getElem?_getD, List.getElem?_eq_getElem hk]
      exact h _ (List.getElem_mem hk)
    · rw [List.getD_eq_getElem?_getD, List.getElem?_eq_none (by omega)]
      exact hm
/-- a palette row -/
def okRow (fs pts row : List Nat) (m : Nat) : Bool := decide (row.length = pts.length) && (row.all (fun c => decide (c < m)) && showsN fs pts row m)
def lokRow (fs pts row : List Nat) (m : Nat) : Bool := decide (row.length = pts.length) && (row.all (fun c => decide (c < m)) && lshowsN fs pts row m)
theorem okRow_eq {fs pts row : List Nat} {m : Nat} (hm : 0 < m) : okRow fs pts row m = lokRow fs pts row m := by
  unfold okRow lokRow
  by_cases h : row.all (fun c => decide (c < m)) = true
  · rw [shows_eq hm (fun x hx => by simpa using List.all_eq_true.mp h x hx)]
  · have h : row.all (fun c => decide (c < m)) = false := by simpa using h
    rw [h]
    rfl
/-- the first row of so many colours that shows all -/
def palN (fs pts : List Nat) (m : Nat) : Option (List Nat) := (rgN pts.length).find? fun row => decide (maxN row + 1 = m) && showsN fs pts row m
def fineN (fs pts : List Nat) (m : Nat) : Bool := (newN pts.length).any fun row => decide ((nubN row).length = m) && lshowsN fs pts row m
theorem rg_nub : ∀ n < 7, 0 < n → ∀ r ∈ rgN n, (nubN r).length = maxN r + 1 := by decide +kernel
theorem pal_fine {fs pts : List Nat} {m : Nat} (h7 : pts.length < 7) (h0 : 0 < pts.length) (hm : 0 < m) : (palN fs pts m).isSome = fineN fs pts m := by
  unfold palN fineN
  rw [← rg_new _ h7, Bool.eq_iff_iff, List.find?_isSome, List.any_eq_true]
  refine exists_congr fun r => and_congr_right fun hr => ?_
  rw [rg_nub _ h7 h0 r hr]
  by_cases e : maxN r + 1 = m
  · rw [shows_eq hm (row := r) (fun x hx => by have := le_maxN hx; omega)]
  · simp [e]
theorem pal_ok {fs pts row : List Nat} {m : Nat} (h7 : pts.length < 7) (hm : 0 < m) (h : palN fs pts m = some row) : okRow fs pts row m = true ∧ row.length = pts.length ∧ (∀ x ∈ row, x < m) := by
  have h1 := List.find?_some h
  have h2 := List.mem_of_find?_eq_some h
  have h3 := ((rg_ok _ h7).1 row h2).1
  simp only [Bool.and_eq_true, decide_eq_true_eq] at h1
  have h4 : ∀ x ∈ row, x < m := fun x hx => by have := le_maxN hx; omega
  refine ⟨?_, h3, h4⟩
  simp only [okRow, h3, h1.2, decide_true, Bool.and_true, Bool.true_and, List.all_eq_true, decide_eq_true_eq]
  exact h4
theorem zipIdx_range (pts : List Nat) : pts.zipIdx = (List.range pts.length).map fun k => (pts.getD k 0, k) := by
  apply List.ext_getElem
  · simp
  · intro i h1 h2
    simp at h1
    simp [h1]
theorem seen_zip (pts row : List Nat) (it : Nat) : (pts.zipIdx.filter fun p => it.testBit p.1).map (fun p => row.getD p.2 0) = seenN pts row it := by
  rw [zipIdx_range, List.filter_map, List.map_map]
  rfl
theorem seen_len (pts row : List Nat) (it : Nat) : (seenN pts row it).length ≤ pts.length := by
  have := List.length_filter_le (fun k => it.testBit (pts.getD k 0)) (List.range pts.length)
  simpa [seenN] using this
/-- a truth, then numbers -/
def bsD (b : Bool) : Option Nat → D
  | none => .bool b
  | some x => .int (x : Int)
theorem bs_map (b : Bool) (row : List Nat) : (PySem.PyData.bool b :: row.map fun x : Nat => PySem.PyData.int (x : Int)) = (none :: row.map some).map (bsD b) := by
  rw [List.map_cons, List.map_map]
  rfl
theorem zero_row : ∀ n < 7, 0 < n → List.replicate n 0 ∈ rgN n ∧ maxN (List.replicate n 0) = 0 := by decide +kernel
theorem uni_pos {fs : List Nat} (hF : Fam fs) : 0 < (pin (uni fs)).length := by
  obtain ⟨y, hy⟩ := List.exists_mem_of_length_pos hF.ne
  obtain ⟨i, hi, hb⟩ : ∃ i, i < 6 ∧ y.testBit i = true := by
    apply Classical.byContradiction
    intro h
    have := (hF.pos y hy).1
    have : y = 0 := eq_of_bits (hF.pos y hy).2 (by decide) fun i hi => by
      cases hb : y.testBit i with
      | true => exact absurd ⟨i, hi, hb⟩ h
      | false => simp
    omega
  exact List.length_pos_of_mem (mem_pin.mpr ⟨hi, by rw [uni_bit, List.any_eq_true]; exact ⟨y, hy, hb⟩⟩)
theorem pal_one {fs : List Nat} (hF : Fam fs) : (palN fs (pin (uni fs)) 1).isSome = true := by
  have h6 : (pin (uni fs)).length ≤ 6 := size_le (uni fs)
  have hz := zero_row (pin (uni fs)).length (by omega) (uni_pos hF)
  rw [palN, List.find?_isSome]
  refine ⟨_, hz.1, ?_⟩
  simp only [hz.2, Nat.zero_add, decide_true, Bool.true_and, showsN, List.all_eq_true, decide_eq_true_eq]
  intro it hit
  obtain ⟨i, hi, hb⟩ : ∃ i, i < 6 ∧ it.testBit i = true := by
    apply Classical.byContradiction
    intro h
    have := (hF.pos it hit).1
    have : it = 0 := eq_of_bits (hF.pos it hit).2 (by decide) fun i hi => by
      cases hb : it.testBit i with
      | true => exact absurd ⟨i, hi, hb⟩ h
      | false => simp
    omega
  have hm : i ∈ pin (uni fs) := mem_pin.mpr ⟨hi, by rw [uni_bit, List.any_eq_true]; exact ⟨it, hit, hb⟩⟩
  obtain ⟨j, hj, e⟩ := List.getElem_of_mem hm
  refine List.length_pos_of_mem (a := (List.replicate (pin (uni fs)).length 0).getD j 0) (mem_nubN.mpr (List.mem_map.mpr ⟨j, List.mem_filter.mpr ⟨List.mem_range.mpr hj, ?_⟩, rfl⟩))
  rw [List.getD_eq_getElem?_getD, List.getElem?_eq_getElem hj, Option.getD_some, e]
  exact hb
def mostN (f : Nat → Bool) : Nat := maxN (((List.range 6).filter f).map fun k => 1 + k)
theorem most_fold (f : Nat → Bool) (h : f 0 = true) : (List.range 6).foldl (fun m k => if f k then 1 + k else m) 0 = mostN f := by
  rw [show List.range 6 = [0, 1, 2, 3, 4, 5] from rfl, mostN, show List.range 6 = [0, 1, 2, 3, 4, 5] from rfl]
  simp only [List.foldl_cons, List.foldl_nil, List.filter_cons, List.filter_nil, h, if_true]
  cases f 1 <;> cases f 2 <;> cases f 3 <;> cases f 4 <;> cases f 5 <;> rfl
/-- how many sets have a point; the greatest heap -/
def cntN (fs : List Nat) (x : Nat) : Nat := (fs.filter fun s => s.testBit x).length
def bestN (fs pts : List Nat) : Nat := maxN (pts.map (cntN fs))
theorem maxN_mem : ∀ {xs : List Nat}, xs ≠ [] → maxN xs ∈ xs
  | [], h => absurd rfl h
  | [x], _ => by simp [maxN]
  | x :: y :: r, _ => by
    have ih := maxN_mem (xs := y :: r) (by simp)
    simp only [maxN]
    by_cases c : x ≤ maxN (y :: r)
    · rw [Nat.max_eq_right c]; exact List.mem_cons_of_mem _ ih
    · rw [Nat.max_eq_left (by omega)]; simp
theorem heap_ne {fs pts : List Nat} (h : 0 < pts.length) : ∃ y r, (pts.filter fun x => cntN fs x == bestN fs pts) = y :: r := by
  have hm := maxN_mem (xs := pts.map (cntN fs)) (by intro e; rw [List.map_eq_nil_iff] at e; rw [e] at h; exact absurd h (Nat.lt_irrefl 0))
  obtain ⟨x, hx, e⟩ := List.mem_map.mp hm
  have : x ∈ pts.filter fun x => cntN fs x == bestN fs pts := List.mem_filter.mpr ⟨hx, by rw [bestN, ← e]; simp⟩
  cases hL : pts.filter fun x => cntN fs x == bestN fs pts with
  | nil => rw [hL] at this; cases this
  | cons y r => exact ⟨y, r, rfl⟩
open PySem in
theorem compL_stP {α β σ ω : Type} {tg : Tg} {vs : List Nat} {cond : Ev → R Bool} {elt : Ev → R β} {still : Ev → Bool} {g : α → D} (G : ω → β) (P : ω → Prop) (ρs : σ → Ev) : ∀ (xs : List α),
    (∀ a ∈ xs, ∀ (s : σ), ∃ (ρ2 ρ4 : Ev) (w : ω) (s' : σ), bindT tg (g a) (ρs s) = some ρ2 ∧ cond ρ2 = .ok true ρ2 ∧ elt ρ2 = .ok (G w) ρ4 ∧ P w ∧ still ρ4 = true ∧ wipeS ρ4 vs = ρs s') →
    ∀ (s : σ), ∃ (ws : List ω) (s' : σ), ws.length = xs.length ∧ (∀ w ∈ ws, P w) ∧ compL tg vs cond elt still (xs.map g) (ρs s) = .ok (ws.map G) (ρs s')
  | [], _, s => ⟨[], s, rfl, (fun _ h => absurd h List.not_mem_nil), rfl⟩
  | a :: xs, h, s => by
    obtain ⟨ρ2, ρ4, w, s1, h1, h2, h3, hp, h4, h5⟩ := h a (by simp) s
    obtain ⟨ws, s', hl, hw, e⟩ := compL_stP G P ρs xs (fun b hb => h b (by simp [hb])) s1
    refine ⟨w :: ws, s', by simp [hl], fun z hz => ?_, ?_⟩
    · rcases List.mem_cons.mp hz with rfl | hz
      · exact hp
      · exact hw z hz
    · rw [List.map_cons, compL, h1]
      simp only [h2, bd_ok, if_true, h3, h4, h5, e, List.map_cons]
theorem wide_fam {ws : List Nat} (h0 : 0 < ws.length) (h8 : ws.length ≤ 8) (h : ∀ w ∈ ws, 0 < w ∧ w < 64) : Fam (sortN (nubN ws)) where
  asc := sortN_asc (nubN_nodup _)
  pos := fun x hx => h x (mem_nubN.mp (mem_sortN.mp hx))
  ne := by
    obtain ⟨y, hy⟩ := List.exists_mem_of_length_pos h0
    exact List.length_pos_of_mem (mem_sortN.mpr (mem_nubN.mpr hy))
  le := by
    have := len_nubN ws
    rw [len_sortN]
    omega
end JK.JKS

end
section
set_option linter.all false
set_option autoImplicit false
set_option maxRecDepth 100000
/-! JkCol: rows of colours of sets. -/
namespace JK.JKS
def clashN (fs row : List Nat) (k j : Nat) : Bool := (row.getD j 0 == row.getD k 0) && ((fs.getD j 0 &&& fs.getD k 0) != 0)
/-- no two sets of a colour meet -/
def rowOk (fs row : List Nat) : Bool := (List.range row.length).all fun k => !((List.range k).any (clashN fs row k))
theorem nub_len_of {row : List Nat} {m : Nat} (h : ∀ x, x ∈ row ↔ x < m) : (nubN row).length = m := by
  have a := len_le_of_subset (l1 := nubN row) (l2 := List.range m) (nubN_nodup row) (fun x hx => List.mem_range.mpr ((h x).mp (mem_nubN.mp hx)))
  have b := len_le_of_subset (l1 := List.range m) (l2 := nubN row) List.nodup_range (fun x hx => mem_nubN.mpr ((h x).mpr (List.mem_range.mp hx)))
  rw [List.length_range] at a b
  omega
/-- the colours of a row are the first ones -/
def RG (row : List Nat) : Prop := ∀ x, x ∈ row ↔ x < (nubN row).length
theorem RG_nil : RG [] := fun x => by simp [nubN]
theorem RG_snoc {row : List Nat} {c : Nat} (h : RG row) (hc : c ≤ (nubN row).length) : RG (row ++ [c]) := by
  have key : ∀ x, x ∈ row ++ [c] ↔ x < (if c = (nubN row).length then (nubN row).length + 1 else (nubN row).length) := by
    intro x
    rw [List.mem_append, List.mem_singleton, h x]
    by_cases e : c = (nubN row).length
    · rw [if_pos e]; omega
    · rw [if_neg e]; omega
  intro x
  rw [nub_len_of key]
  exact key x
theorem mx_of {row : List Nat} (h : RG row) : mxN row = (nubN row).length + 1 := by
  unfold mxN
  by_cases e : row = []
  · rw [if_pos e, e]; rfl
  · rw [if_neg e]
    have h1 := (h _).mp (maxN_mem e)
    have h2 := le_maxN ((h ((nubN row).length - 1)).mpr (by omega))
    omega
theorem clash_take {fs row : List Nat} {k a b : Nat} (ha : a < k) (hb : b < k) : clashN (fs.take k) row a b = clashN fs row a b := by
  unfold clashN
  simp only [List.getD_eq_getElem?_getD, List.getElem?_take, ha, hb, if_true]
theorem rowOk_take {fs row : List Nat} {k : Nat} (h : row.length ≤ k) : rowOk (fs.take k) row = rowOk fs row := by
  unfold rowOk
  rw [Bool.eq_iff_iff]
  simp only [List.all_eq_true, List.mem_range, Bool.not_eq_true', List.any_eq_false]
  constructor
  · intro g q hq j hj
    rw [← clash_take (fs := fs) (k := k) (by omega) (by omega)]
    exact g q hq j hj
  · intro g q hq j hj
    rw [clash_take (by omega) (by omega)]
    exact g q hq j hj
/-- the law's rows -/
def leastN (fs : List Nat) : Nat → List (List Nat)
  | 0 => [[]]
  | k + 1 => ((leastN fs k).map fun row => ((List.range ((nubN row).length + 1)).filter fun c => rowOk fs (row ++ [c])).map fun c => row ++ [c]).flatten
/-- the program's rows of so many colours -/
def colN (fs : List Nat) (m : Nat) : Nat → List (List Nat)
  | 0 => [[]]
  | k + 1 => ((colN fs m k).map fun row => ((List.range (min m (mxN row))).filter fun c => rowOk (fs.take (k + 1)) (row ++ [c])).map fun c => row ++ [c]).flatten
theorem least_ok (fs : List Nat) : ∀ (k : Nat), ∀ r ∈ leastN fs k, r.length = k ∧ RG r
  | 0, r, h => by
    simp only [leastN, List.mem_singleton] at h
    subst h
    exact ⟨rfl, RG_nil⟩
  | k + 1, r, h => by
    simp only [leastN, List.mem_flatten, List.mem_map] at h
    obtain ⟨l, ⟨row, hrow, rfl⟩, hr⟩ := h
    obtain ⟨c, hc, rfl⟩ := List.mem_map.mp hr
    have hc := List.mem_range.mp (List.mem_filter.mp hc).1
    obtain ⟨h1, h2⟩ := least_ok fs k row hrow
    exact ⟨by simp [h1], RG_snoc h2 (by omega)⟩
theorem range_min (m t : Nat) : List.range (min m t) = (List.range t).filter fun c => decide (c < m) := by
  induction t with
  | zero => simp
  | succ t ih =>
    rw [List.range_succ, List.filter_append, ← ih]
    by_cases e : t < m
    · rw [Nat.min_eq_right (by omega), Nat.min_eq_right (by omega), List.range_succ]
      simp [e]
    · rw [Nat.min_eq_left (by omega), Nat.min_eq_left (by omega)]
      simp [e]
theorem col_least (fs : List Nat) (m : Nat) : ∀ k, colN fs m k = (leastN fs k).filter fun r => r.all fun c => decide (c < m)
  | 0 => rfl
  | k + 1 => by
    rw [colN, leastN, col_least fs m k]
    have hok := least_ok fs k
    generalize leastN fs k = L at hok
    induction L with
    | nil => rfl
    | cons row L ih =>
      have ih := ih fun r hr => hok r (by simp [hr])
      obtain ⟨h1, h2⟩ := hok row (by simp)
      rw [List.map_cons, List.flatten_cons, List.filter_append, ← ih]
      by_cases e : (row.all fun c => decide (c < m)) = true
      · rw [List.filter_cons_of_pos (p := fun r : List Nat => r.all fun c => decide (c < m)) e, List.map_cons, List.flatten_cons]
        congr 1
        rw [mx_of h2, range_min, List.filter_map, List.filter_filter, List.filter_filter]
        congr 1
        apply List.filter_congr
        intro c _
        simp only [Function.comp, List.all_append, e, List.all_cons, List.all_nil, Bool.and_true, Bool.true_and]
        rw [rowOk_take (by simp [h1]), Bool.and_comm]
      · rw [List.filter_cons_of_neg (p := fun r : List Nat => r.all fun c => decide (c < m)) e]
        symm
        rw [show List.filter (fun r => r.all fun c => decide (c < m)) (List.map (fun c => row ++ [c]) (List.filter (fun c => rowOk fs (row ++ [c])) (List.range ((nubN row).length + 1)))) = [] from ?_, List.nil_append]
        rw [List.filter_eq_nil_iff]
        intro r hr
        obtain ⟨c, _, rfl⟩ := List.mem_map.mp hr
        rw [List.all_append]
        simp only [Bool.not_eq_true] at e
        rw [e]
        simp
theorem rowOk_range (fs : List Nat) (k : Nat) : rowOk fs (List.range k) = true := by
  unfold rowOk
  simp only [List.all_eq_true, List.mem_range, Bool.not_eq_true', List.any_eq_false, List.length_range]
  intro q hq j hj
  have : (List.range k).getD j 0 ≠ (List.range k).getD q 0 := by
    rw [List.getD_eq_getElem?_getD, List.getD_eq_getElem?_getD, List.getElem?_range (by omega), List.getElem?_range hq]
    simp; omega
  simp only [clashN, Bool.and_eq_true, beq_iff_eq, not_and]
  intro h
  exact absurd h this
theorem range_least (fs : List Nat) : ∀ k, List.range k ∈ leastN fs k
  | 0 => by simp [leastN]
  | k + 1 => by
    have h1 : (nubN (List.range k)).length = k := nub_len_of fun x => List.mem_range
    rw [leastN, List.mem_flatten]
    refine ⟨_, List.mem_map.mpr ⟨_, range_least fs k, rfl⟩, List.mem_map.mpr ⟨k, List.mem_filter.mpr ⟨?_, ?_⟩, (List.range_succ).symm⟩⟩
    · rw [h1]; simp
    · rw [← List.range_succ]; exact rowOk_range fs _
def leastC (fs : List Nat) (k : Nat) : Nat := minN ((leastN fs k).map fun r => (nubN r).length)
theorem all_lt {r : List Nat} (h : RG r) (m : Nat) : (r.all fun c => decide (c < m)) = decide ((nubN r).length ≤ m) := by
  rw [Bool.eq_iff_iff, List.all_eq_true, decide_eq_true_eq]
  constructor
  · intro g
    by_cases e : (nubN r).length = 0
    · omega
    · have := g _ ((h ((nubN r).length - 1)).mpr (by omega))
      rw [decide_eq_true_eq] at this
      omega
  · intro g x hx
    have := (h x).mp hx
    rw [decide_eq_true_eq]
    omega
theorem minN_le {x : Nat} : ∀ {xs : List Nat}, x ∈ xs → minN xs ≤ x
  | [y], h => by
    simp only [List.mem_singleton] at h
    subst h
    exact Nat.le_refl _
  | y :: z :: r, h => by
    simp only [minN]
    rcases List.mem_cons.mp h with rfl | h
    · exact Nat.min_le_left _ _
    · exact Nat.le_trans (Nat.min_le_right _ _) (minN_le h)
theorem minN_mem : ∀ {xs : List Nat}, xs ≠ [] → minN xs ∈ xs
  | [], h => absurd rfl h
  | [x], _ => by simp [minN]
  | x :: y :: r, _ => by
    have ih := minN_mem (xs := y :: r) (by simp)
    simp only [minN]
    by_cases c : x ≤ minN (y :: r)
    · rw [Nat.min_eq_left c]; simp
    · rw [Nat.min_eq_right (by omega)]; exact List.mem_cons_of_mem _ ih
theorem col_none {fs : List Nat} {k m : Nat} (h : m < leastC fs k) : colN fs m k = [] := by
  rw [col_least, List.filter_eq_nil_iff]
  intro r hr
  rw [all_lt (least_ok fs k r hr).2, decide_eq_true_eq]
  have := minN_le (List.mem_map.mpr ⟨r, hr, rfl⟩ : (nubN r).length ∈ (leastN fs k).map fun r => (nubN r).length)
  unfold leastC at h
  omega
theorem col_some (fs : List Nat) (k : Nat) : ∃ r rs, colN fs (leastC fs k) k = r :: rs ∧ r.length = k ∧ RG r ∧ (nubN r).length = leastC fs k := by
  have hm := minN_mem (xs := (leastN fs k).map fun r => (nubN r).length) (by
    intro e
    rw [List.map_eq_nil_iff] at e
    have := range_least fs k
    rw [e] at this
    cases this)
  obtain ⟨q, hq, e⟩ := List.mem_map.mp hm
  have hq2 : q ∈ colN fs (leastC fs k) k := by
    rw [col_least]
    refine List.mem_filter.mpr ⟨hq, ?_⟩
    rw [all_lt (least_ok fs k q hq).2, decide_eq_true_eq]
    exact Nat.le_of_eq e
  cases hL : colN fs (leastC fs k) k with
  | nil => rw [hL] at hq2; cases hq2
  | cons r rs =>
    have hr : r ∈ colN fs (leastC fs k) k := by rw [hL]; simp
    rw [col_least] at hr
    obtain ⟨hr1, hr2⟩ := List.mem_filter.mp hr
    have ho := least_ok fs k r hr1
    rw [all_lt ho.2, decide_eq_true_eq] at hr2
    have := minN_le (List.mem_map.mpr ⟨r, hr1, rfl⟩ : (nubN r).length ∈ (leastN fs k).map fun r => (nubN r).length)
    exact ⟨r, rs, rfl, ho.1, ho.2, Nat.le_antisymm hr2 this⟩
theorem least_fine {fs : List Nat} {k : Nat} {r : List Nat} (h : r ∈ leastN fs (k + 1)) : rowOk fs r = true := by
  rw [leastN, List.mem_flatten] at h
  obtain ⟨l, hl, hr⟩ := h
  obtain ⟨row, _, rfl⟩ := List.mem_map.mp hl
  obtain ⟨c, hc, rfl⟩ := List.mem_map.mp hr
  exact (List.mem_filter.mp hc).2
theorem leastC_le (fs : List Nat) (k : Nat) : leastC fs k ≤ k := by
  have h1 : (nubN (List.range k)).length = k := nub_len_of fun x => List.mem_range
  have := minN_le (List.mem_map.mpr ⟨_, range_least fs k, rfl⟩ : (nubN (List.range k)).length ∈ (leastN fs k).map fun r => (nubN r).length)
  rw [h1] at this
  exact this
def facN : Nat → Nat
  | 0 => 1
  | k + 1 => (k + 1) * facN k
theorem len_flat {α : Type} (b : Nat) : ∀ (ls : List (List α)), (∀ l ∈ ls, l.length ≤ b) → ls.flatten.length ≤ b * ls.length
  | [], _ => by simp
  | l :: ls, h => by
    have h1 := h l (by simp)
    have h2 := len_flat b ls fun x hx => h x (by simp [hx])
    rw [List.flatten_cons, List.length_append, List.length_cons, Nat.mul_succ]
    omega
theorem least_len (fs : List Nat) : ∀ k, (leastN fs k).length ≤ facN k
  | 0 => Nat.le_refl _
  | k + 1 => by
    have ih := least_len fs k
    rw [leastN]
    refine Nat.le_trans (len_flat (k + 1) _ fun l hl => ?_) ?_
    · obtain ⟨row, hrow, rfl⟩ := List.mem_map.mp hl
      have h1 := (least_ok fs k row hrow).1
      have h2 := len_nubN row
      rw [List.length_map]
      refine Nat.le_trans (List.length_filter_le _ _) ?_
      rw [List.length_range]
      omega
    · rw [List.length_map, facN]
      exact Nat.mul_le_mul_left _ ih
theorem col_len (fs : List Nat) (m k : Nat) : (colN fs m k).length ≤ facN k := by
  rw [col_least]
  exact Nat.le_trans (List.length_filter_le _ _) (least_len fs k)
theorem fac_le : ∀ k < 9, facN k ≤ 40320 := by decide
end JK.JKS

end
section
set_option linter.all false
set_option autoImplicit false
set_option maxRecDepth 100000
/-! JkMeet: sets of sets that are two by two so. -/
namespace JK.JKS
def allS (rows : List (List Nat)) (it : Nat) : List (List Nat) := rows ++ rows.map fun row => row ++ [it]
def someS (p : Nat → Nat → Bool) (rows : List (List Nat)) (it : Nat) : List (List Nat) := rows ++ (rows.filter fun row => row.all fun x => p it x).map fun row => row ++ [it]
/-- each two of a row are so -/
def PW (p : Nat → Nat → Bool) (row : List Nat) : Bool := row.all fun x => row.all fun y => (x == y) || p x y
theorem PW_iff {p : Nat → Nat → Bool} {row : List Nat} : PW p row = true ↔ ∀ x ∈ row, ∀ y ∈ row, x = y ∨ p x y = true := by
  simp only [PW, List.all_eq_true, Bool.or_eq_true, beq_iff_eq]
theorem PW_snoc {p : Nat → Nat → Bool} (hp : ∀ x y, p x y = p y x) {row : List Nat} {it : Nat} (h : it ∉ row) : PW p (row ++ [it]) = (PW p row && row.all fun x => p it x) := by
  rw [Bool.eq_iff_iff, Bool.and_eq_true, PW_iff, PW_iff, List.all_eq_true]
  simp only [List.mem_append, List.mem_singleton]
  constructor
  · intro g
    refine ⟨fun x hx y hy => g x (.inl hx) y (.inl hy), fun x hx => ?_⟩
    rcases g it (.inr rfl) x (.inl hx) with rfl | e
    · exact absurd hx h
    · exact e
  · rintro ⟨g1, g2⟩ x (hx | rfl) y (hy | rfl)
    · exact g1 x hx y hy
    · exact .inr (by rw [hp]; exact g2 x hx)
    · exact .inr (g2 y hy)
    · exact .inl rfl
theorem meet_rows {p : Nat → Nat → Bool} (hp : ∀ x y, p x y = p y x) : ∀ (fs : List Nat) (acc : List (List Nat)), fs.Nodup → (∀ row ∈ acc, ∀ x ∈ row, x ∉ fs) → fs.foldl (someS p) (acc.filter (PW p)) = (fs.foldl allS acc).filter (PW p)
  | [], _, _, _ => rfl
  | it :: fs, acc, hn, h => by
    rw [List.nodup_cons] at hn
    rw [List.foldl_cons, List.foldl_cons, ← meet_rows hp fs (allS acc it) hn.2 ?_]
    · congr 1
      rw [allS, someS, List.filter_append, List.filter_map, List.filter_filter]
      congr 2
      apply List.filter_congr
      intro row hr
      have hi : it ∉ row := fun hx => h row hr it hx (by simp)
      rw [Function.comp, PW_snoc hp hi, Bool.and_comm]
    · intro row hr x hx hm
      rcases List.mem_append.mp hr with hr | hr
      · exact h row hr x hx (by simp [hm])
      · obtain ⟨q, hq, rfl⟩ := List.mem_map.mp hr
        rcases List.mem_append.mp hx with hx | hx
        · exact h q hq x hx (by simp [hm])
        · rw [List.mem_singleton] at hx
          subst hx
          exact hn.1 hm
end JK.JKS

end
section
set_option linter.all false
set_option autoImplicit false
set_option maxRecDepth 100000
/-! JkWp: how statements may end: rules for loops with an invariant. -/
namespace JK.JKS
open PySem
/-- a slot that is not own -/
def jn (o : Option D) : Sl := match o with
  | none => .un
  | some d => .sh d
@[scoped simp] theorem jn_none : jn none = .un := id rfl
@[scoped simp] theorem jn_some (d : D) : jn (some d) = .sh d := id rfl
@[scoped simp high] theorem isOw_jn (o : Option D) (r : Ev) : isOw (jn o :: r) 0 = false := by cases o <;> rfl
/-- a statement ends: behind it N, or with a result T -/
def PO (o : Out) (N : Ev → Prop) (T : D → Ev → Prop) : Prop := match o with
  | .nx ρ => N ρ
  | .rt d ρ => T d ρ
  | _ => False
section
variable {C : Cfg} {n : Nat} {io : List Nat} {ff : Bool} {N N' : Ev → Prop} {T T' : D → Ev → Prop} {o : Out} {ρ ρ1 : Ev}
theorem PO.mono (h : PO o N T) (hn : ∀ ρ, N ρ → N' ρ) (ht : ∀ d ρ, T d ρ → T' d ρ) : PO o N' T' := by
  cases o with
  | nx ρ => exact hn ρ h
  | rt d ρ => exact ht d ρ h
  | ct => exact h
  | ex => exact h
  | er => exact h
theorem PO_seq {s : S} {r : List S} (h : PO (evS C n io ff s ρ) (fun ρ1 => PO (evSs C n io ff r ρ1) N T) T) : PO (evSs C n io ff (s :: r) ρ) N T := by
  rw [evSs_cons']
  cases e : evS C n io ff s ρ with
  | nx ρ1 => rw [e] at h; exact h
  | rt d ρ1 => rw [e] at h; exact h
  | ct => rw [e] at h; exact h
  | ex => rw [e] at h; exact h
  | er => rw [e] at h; exact h
theorem PO_nil (h : N ρ) : PO (evSs C n io ff [] ρ) N T := by rw [evSs_nil]; exact h
theorem PO_step {s : S} {r : List S} (e : evS C n io ff s ρ = .nx ρ1) (h : PO (evSs C n io ff r ρ1) N T) : PO (evSs C n io ff (s :: r) ρ) N T := PO_seq (by rw [e]; exact h)
theorem PO_steps (k : Nat) {b : List S} (e : evSs C n io ff (b.take k) ρ = .nx ρ1) (h : PO (evSs C n io ff (b.drop k) ρ1) N T) : PO (evSs C n io ff b ρ) N T := by
  rw [evSs_cut C n io ff k b, e, sq_nx]; exact h
theorem PO_last {b : List S} {d : D} (e : evSs C n io ff b ρ = .rt d ρ1) (h : T d ρ1) : PO (evSs C n io ff b ρ) N T := by rw [e]; exact h
theorem PO_end {b : List S} (e : evSs C n io ff b ρ = .nx ρ1) (h : N ρ1) : PO (evSs C n io ff b ρ) N T := by rw [e]; exact h
theorem PO_loop {α : Type} {tg : Tg} {body : Ev → Out} {still : Ev → Bool} {g : α → D} (I : List α → Ev → Prop) (hst : ∀ ρ, still ρ = true) : ∀ (xs pre : List α) (ρ : Ev), I pre ρ →
    (∀ p a q, pre ++ xs = p ++ a :: q → ∀ ρ, I p ρ → ∃ ρ1, bindT tg (g a) ρ = some ρ1 ∧ PO (body ρ1) (I (p ++ [a])) T) → PO (forL tg body still (xs.map g) ρ) (I (pre ++ xs)) T
  | [], pre, ρ, h, _ => by rw [List.append_nil]; exact h
  | a :: xs, pre, ρ, h, hs => by
    obtain ⟨ρ1, h1, h2⟩ := hs pre a xs rfl ρ h
    rw [List.map_cons, forL, h1]
    generalize hb : body ρ1 = o at h2
    simp only [hb]
    cases o with
    | nx ρ2 =>
      have ih := PO_loop I hst xs (pre ++ [a]) ρ2 h2 fun p b q hq => hs p b q (by rw [← hq]; simp)
      rw [List.append_assoc] at ih
      simp only [hst, if_true]
      exact ih
    | rt d ρ2 => exact h2
    | ct => exact h2.elim
    | ex => exact h2.elim
    | er => exact h2.elim
theorem PO_for {α : Type} {tg : Tg} {k : Ik} {es : List E} {b r : List S} {g : α → D} {xs : List α} (I : List α → Ev → Prop) {as : List Arg} {ds : List D} {ρ0 : Ev} (h1 : evAs C es ρ = .ok as ρ0) (h2 : rsAll ρ0 as = some ds) (h3 : borIn (tgS tg ++ asgSs b) as = false) (h4 : itemsD k ds = .ok (xs.map g))
    (h5 : ∀ ρ', sameD (rsAll ρ' as) (some ds) = true) (h0 : I [] ρ0) (hs : ∀ p a q, xs = p ++ a :: q → ∀ ρ, I p ρ → ∃ ρ1, bindT tg (g a) ρ = some ρ1 ∧ PO (evSs C n io ff b ρ1) (I (p ++ [a])) T)
    (he : ∀ ρ, I xs ρ → PO (evSs C n io ff r ρ) N T) : PO (evSs C n io ff (.for_ tg k es b :: r) ρ) N T := by
  refine PO_seq ?_
  rw [evS_for, h1, out_ok]
  simp only [h2, h3, Bool.false_eq_true, if_false, h4, lift_ok, out_ok]
  exact (PO_loop I h5 xs [] ρ0 h0 hs).mono (fun ρ h => he ρ h) fun _ _ h => h
theorem PO_for1 {α : Type} {tg : Tg} {k : Ik} {es : List E} {b r : List S} {g : α → D} {xs : List α} (I : List α → Ev → Prop) {d : D} {ρ0 : Ev} (h1 : evAs C es ρ = .ok [.val d] ρ0) (h4 : itemsD k [d] = .ok (xs.map g)) (hd : shap 100 d = true)
    (h0 : I [] ρ0) (hs : ∀ p a q, xs = p ++ a :: q → ∀ ρ, I p ρ → ∃ ρ1, bindT tg (g a) ρ = some ρ1 ∧ PO (evSs C n io ff b ρ1) (I (p ++ [a])) T)
    (he : ∀ ρ, I xs ρ → PO (evSs C n io ff r ρ) N T) : PO (evSs C n io ff (.for_ tg k es b :: r) ρ) N T :=
  PO_for I (as := [.val d]) (ds := [d]) h1 rfl (by simp) h4 (fun ρ' => sameD_some [d] (by rw [shaps_cons, hd, shaps_nil]; rfl)) h0 hs he
theorem PO_for2 {α : Type} {tg : Tg} {k : Ik} {es : List E} {b r : List S} {g : α → D} {xs : List α} (I : List α → Ev → Prop) {d d2 : D} {ρ0 : Ev} (h1 : evAs C es ρ = .ok [.val d, .val d2] ρ0) (h4 : itemsD k [d, d2] = .ok (xs.map g)) (hd : shap 100 d = true) (hd2 : shap 100 d2 = true)
    (h0 : I [] ρ0) (hs : ∀ p a q, xs = p ++ a :: q → ∀ ρ, I p ρ → ∃ ρ1, bindT tg (g a) ρ = some ρ1 ∧ PO (evSs C n io ff b ρ1) (I (p ++ [a])) T)
    (he : ∀ ρ, I xs ρ → PO (evSs C n io ff r ρ) N T) : PO (evSs C n io ff (.for_ tg k es b :: r) ρ) N T :=
  PO_for I (as := [.val d, .val d2]) (ds := [d, d2]) h1 rfl (by simp) h4 (fun ρ' => sameD_some [d, d2] (by rw [shaps_cons, shaps_cons, hd, hd2, shaps_nil]; rfl)) h0 hs he
theorem fin_PO {f : String} {v : D} (h : PO o (fun _ => False) (fun d _ => d = v)) : wrapC f (finC ff [] o) = .ok v [] := by
  cases o with
  | nx ρ => exact h.elim
  | rt d ρ => cases h; rfl
  | ct => exact h.elim
  | ex => exact h.elim
  | er => exact h.elim
theorem fin_POe {f : String} {Q : D → Prop} (h : PO o (fun _ => False) (fun d _ => Q d)) : ∃ v, wrapC f (finC ff [] o) = .ok v [] ∧ Q v := by
  cases o with
  | nx ρ => exact h.elim
  | rt d ρ => exact ⟨d, rfl, h⟩
  | ct => exact h.elim
  | ex => exact h.elim
  | er => exact h.elim
/-- .. with the drawing list handed on -/
theorem fin_POd {f : String} {Q : D → D → Prop} (h : PO o (fun _ => False) (fun d ρ => ∃ v r, ρ = .ow v :: r ∧ Q d v)) : ∃ d v, wrapC f (finC ff [0] o) = .ok d [v] ∧ Q d v := by
  cases o with
  | nx ρ => exact h.elim
  | rt d ρ => obtain ⟨v, r, rfl, q⟩ := h; exact ⟨d, v, rfl, q⟩
  | ct => exact h.elim
  | ex => exact h.elim
  | er => exact h.elim
theorem PO_ifs {c : E} {a b r : List S} {q : Bool} (e : evT C c ρ = .ok q ρ) (h : PO (if q then evSs C n io ff a ρ else evSs C n io ff b ρ) (fun ρ1 => PO (evSs C n io ff r ρ1) N T) T) : PO (evSs C n io ff (.ifs c a b :: r) ρ) N T := by
  refine PO_seq ?_
  rw [evS_ifs, e, out_ok]
  exact h
theorem PO_ret {e : E} {r : List S} {d : D} (h : evA C e ρ = .ok (.val d) ρ1) (hd : ff = false) (ht : T d ρ1) : PO (evSs C n io ff (.ret e :: r) ρ) N T := by
  refine PO_seq ?_
  rw [evS_ret, h, out_ok, hd]
  exact ht
end
end JK.JKS

end
section
set_option linter.all false
set_option autoImplicit false
set_option maxRecDepth 100000
/-! JkMore: further facts for the evaluator's runs. -/
namespace JK.JKS
open PySem
theorem bi_ssetT {α : Type} (f : α → Nat) (xs : List α) (h : xs.length < 1000) (h' : (nubN (xs.map f)).length < 64) : biD .sset [.tuple (xs.map fun a => .int (f a : Int))] = .ok (.list ((sortN (nubN (xs.map f))).map fun x : Nat => .int (x : Int))) := bi_sset f xs h h'
@[scoped simp] theorem bi_trng (b : Int) (h : 0 ≤ b) (h' : b ≤ 1000000) : biD .trng [.int b] = .ok (.tuple ((List.range b.toNat).map fun k : Nat => .int (k : Int))) := by
  have : rngOk 0 b = true := by simp [rngOk]; omega
  obtain ⟨n, rfl⟩ := Int.eq_ofNat_of_zero_le h
  simp only [biD, this, if_true, rngL0, Int.toNat_natCast]
theorem asc_ext : ∀ {xs ys : List Nat}, xs.Pairwise (· < ·) → ys.Pairwise (· < ·) → (∀ x, x ∈ xs ↔ x ∈ ys) → xs = ys
  | [], [], _, _, _ => rfl
  | [], y :: ys, _, _, h => by have := (h y).mpr (by simp); cases this
  | x :: xs, [], _, _, h => by have := (h x).mp (by simp); cases this
  | x :: xs, y :: ys, hx, hy, h => by
    have hx' := List.pairwise_cons.mp hx
    have hy' := List.pairwise_cons.mp hy
    have e : x = y := by
      rcases List.mem_cons.mp ((h x).mp (by simp)) with e | m
      · exact e
      · rcases List.mem_cons.mp ((h y).mpr (by simp)) with e | m2
        · exact e.symm
        · have := hy'.1 x m
          have := hx'.1 y m2
          omega
    subst e
    congr 1
    refine asc_ext hx'.2 hy'.2 fun z => ⟨fun hz => ?_, fun hz => ?_⟩
    · rcases List.mem_cons.mp ((h z).mp (by simp [hz])) with e | m
      · have := hx'.1 z hz; omega
      · exact m
    · rcases List.mem_cons.mp ((h z).mpr (by simp [hz])) with e | m
      · have := hy'.1 z hz; omega
      · exact m
theorem range_asc (m : Nat) : (List.range m).Pairwise (· < ·) := List.pairwise_lt_range
theorem sort_rg {r : List Nat} (h : RG r) : sortN (nubN r) = List.range (nubN r).length :=
  asc_ext (sortN_asc (nubN_nodup r)) (range_asc _) fun x => by rw [mem_sortN, mem_nubN, h x, List.mem_range]
/-- [x] * (1 if c else 0) -/
theorem op_one (x : D) : opD .mul (.list [x]) (.int 1) = .ok (.list [x]) := by simp [opD, lim]
theorem op_none (x : D) : opD .mul (.list [x]) (.int 0) = .ok (.list []) := by simp [opD, lim]
theorem fin_PO0 {ff : Bool} {o : Out} {v : D} (h : PO o (fun _ => False) (fun d _ => d = v)) : finC ff [] o = .ok v [] := by
  cases o with
  | nx ρ => exact h.elim
  | rt d ρ => cases h; rfl
  | ct => exact h.elim
  | ex => exact h.elim
  | er => exact h.elim
theorem opT {xs ys : List D} (h : xs.length + ys.length ≤ 100000) : opD .add (.tuple xs) (.tuple ys) = .ok (.tuple (xs ++ ys)) := op_addT _ _ (by simp only [lenOk, lim, List.length_append]; exact decide_eq_true (by omega))
theorem opL {xs ys : List D} (h : xs.length + ys.length ≤ 100000) : opD .add (.list xs) (.list ys) = .ok (.list (xs ++ ys)) := op_addL _ _ (by simp only [lenOk, lim, List.length_append]; exact decide_eq_true (by omega))
end JK.JKS

end
section
set_option linter.all false
set_option autoImplicit false
set_option maxRecDepth 100000
/-! JkLess: sets made of points, families made of sets. -/
namespace JK.JKS
open PySem
def orN (l : List Nat) : Nat := l.foldl (fun a i => a ||| 2 ^ i) 0
/-- the unlike sets that are not empty, ascending -/
def mkN (l : List Nat) : List Nat := sortN (nubN (l.filter fun x => decide (0 < x)))
theorem orN_bit (l : List Nat) (y : Nat) : (orN l).testBit y = decide (y ∈ l) := by
  have key : ∀ (l : List Nat) (z : Nat), (l.foldl (fun a i => a ||| 2 ^ i) z).testBit y = (z.testBit y || decide (y ∈ l)) := by
    intro l
    induction l with
    | nil => intro z; simp
    | cons x l ih =>
      intro z
      rw [List.foldl_cons, ih, Nat.testBit_or, Nat.testBit_two_pow, Bool.or_assoc]
      congr 1
      rw [Bool.eq_iff_iff]
      simp only [Bool.or_eq_true, decide_eq_true_eq, List.mem_cons]
      exact or_congr_left ⟨fun e => e.symm, fun e => e.symm⟩
  rw [orN, key, Nat.zero_testBit, Bool.false_or]
theorem orN_sum {l : List Nat} (h : l.Nodup) : orN l = (l.map fun i => 2 ^ i).sum := Nat.eq_of_testBit_eq fun i => by rw [orN_bit, testBit_sum l i h]
theorem orN_lt {l : List Nat} {b : Nat} (h : ∀ x ∈ l, x < b) : orN l < 2 ^ b := Nat.lt_pow_two_of_testBit _ fun i hi => by
  rw [orN_bit]
  simp only [decide_eq_false_iff_not]
  intro hm
  have := h i hm
  omega
theorem mem_mk {l : List Nat} {x : Nat} : x ∈ mkN l ↔ x ∈ l ∧ 0 < x := by
  simp [mkN, mem_sortN, mem_nubN, List.mem_filter]
theorem mk_asc (l : List Nat) : (mkN l).Pairwise (· < ·) := sortN_asc (nubN_nodup _)
theorem mk_len (l : List Nat) : (mkN l).length ≤ l.length := by
  have h1 := len_nubN (l.filter fun x => decide (0 < x))
  have h2 := List.length_filter_le (fun x => decide (0 < x)) l
  rw [mkN, len_sortN]
  omega
theorem mk_ext {l l' : List Nat} (h : ∀ x, 0 < x → (x ∈ l ↔ x ∈ l')) : mkN l = mkN l' := asc_ext (mk_asc l) (mk_asc l') fun x => by
  rw [mem_mk, mem_mk]
  constructor
  · rintro ⟨h1, h2⟩
    exact ⟨(h x h2).mp h1, h2⟩
  · rintro ⟨h1, h2⟩
    exact ⟨(h x h2).mpr h1, h2⟩
theorem mk_fam {l : List Nat} (h : ∀ x ∈ l, x < 64) (h0 : mkN l ≠ []) (h8 : (mkN l).length ≤ 8) : Fam (mkN l) where
  asc := mk_asc l
  pos := fun x hx => ⟨(mem_mk.mp hx).2, h x (mem_mk.mp hx).1⟩
  ne := List.length_pos_iff.mpr h0
  le := h8
@[scoped simp] theorem band_not (a b : Nat) : Builtin.bitAnd (a : Int) (Builtin.bitNot (b : Int)) = ((a - (a &&& b) : Nat) : Int) := by
  rw [PyProof.Rows.bitAnd_not, band_nn (by omega) (by omega), Int.toNat_natCast, Int.toNat_natCast]
  have : a &&& b ≤ a := Nat.and_le_left
  omega
theorem join_ok : ∀ s < 64, ∀ x < 6, ∀ y < 6, orN ((pin s).map fun i => if i = y then x else i) = (if s.testBit y then s - 2 ^ y else s) ||| ((s >>> y) &&& 1) * 2 ^ x := by decide +kernel
theorem bi_made {l : List Nat} (h : l.length < 1000) (h' : l.length < 64) : biD .sset [.list ((l.filter fun x => decide (0 < x)).map fun x : Nat => .int (x : Int))] = .ok (.list ((mkN l).map fun x : Nat => .int (x : Int))) := by
  have h1 := List.length_filter_le (fun x => decide (0 < x)) l
  have h2 := len_nubN (l.filter fun x => decide (0 < x))
  have := bi_sset (fun x : Nat => x) (l.filter fun x => decide (0 < x)) (by omega) (by rw [List.map_id']; omega)
  rw [List.map_id'] at this
  exact this
@[scoped simp] theorem flats_ints : ∀ xs : List Nat, flats (xs.map fun x : Nat => PyData.int (x : Int)) = true
  | [] => rfl
  | x :: xs => by rw [List.map_cons, flats_cons, flats_ints xs]; rfl
end JK.JKS

end
section
set_option Elab.async false
set_option linter.all false
set_option autoImplicit false
/-! JkStr: the strings of the change laws. -/
namespace JK.JKS
open PySem
@[scoped simp] theorem sk_set : PyData.strOk (Str.ofString "set") = true := by decide +kernel
@[scoped simp] theorem sb_set_point : (Str.ofString "set" == Str.ofString "point") = false := by decide +kernel
@[scoped simp] theorem sb_set_with : (Str.ofString "set" == Str.ofString "with") = false := by decide +kernel
@[scoped simp] theorem sb_set_join : (Str.ofString "set" == Str.ofString "join") = false := by decide +kernel
@[scoped simp] theorem sb_set_great : (Str.ofString "set" == Str.ofString "great") = false := by decide +kernel
@[scoped simp] theorem sb_set_least : (Str.ofString "set" == Str.ofString "least") = false := by decide +kernel
@[scoped simp] theorem sb_set_dual : (Str.ofString "set" == Str.ofString "dual") = false := by decide +kernel
@[scoped simp] theorem sk_point : PyData.strOk (Str.ofString "point") = true := by decide +kernel
@[scoped simp] theorem sb_point_set : (Str.ofString "point" == Str.ofString "set") = false := by decide +kernel
@[scoped simp] theorem sb_point_with : (Str.ofString "point" == Str.ofString "with") = false := by decide +kernel
@[scoped simp] theorem sb_point_join : (Str.ofString "point" == Str.ofString "join") = false := by decide +kernel
@[scoped simp] theorem sb_point_great : (Str.ofString "point" == Str.ofString "great") = false := by decide +kernel
@[scoped simp] theorem sb_point_least : (Str.ofString "point" == Str.ofString "least") = false := by decide +kernel
@[scoped simp] theorem sb_point_dual : (Str.ofString "point" == Str.ofString "dual") = false := by decide +kernel
@[scoped simp] theorem sk_with : PyData.strOk (Str.ofString "with") = true := by decide +kernel
@[scoped simp] theorem sb_with_set : (Str.ofString "with" == Str.ofString "set") = false := by decide +kernel
@[scoped simp] theorem sb_with_point : (Str.ofString "with" == Str.ofString "point") = false := by decide +kernel
@[scoped simp] theorem sb_with_join : (Str.ofString "with" == Str.ofString "join") = false := by decide +kernel
@[scoped simp] theorem sb_with_great : (Str.ofString "with" == Str.ofString "great") = false := by decide +kernel
@[scoped simp] theorem sb_with_least : (Str.ofString "with" == Str.ofString "least") = false := by decide +kernel
@[scoped simp] theorem sb_with_dual : (Str.ofString "with" == Str.ofString "dual") = false := by decide +kernel
@[scoped simp] theorem sk_join : PyData.strOk (Str.ofString "join") = true := by decide +kernel
@[scoped simp] theorem sb_join_set : (Str.ofString "join" == Str.ofString "set") = false := by decide +kernel
@[scoped simp] theorem sb_join_point : (Str.ofString "join" == Str.ofString "point") = false := by decide +kernel
@[scoped simp] theorem sb_join_with : (Str.ofString "join" == Str.ofString "with") = false := by decide +kernel
@[scoped simp] theorem sb_join_great : (Str.ofString "join" == Str.ofString "great") = false := by decide +kernel
@[scoped simp] theorem sb_join_least : (Str.ofString "join" == Str.ofString "least") = false := by decide +kernel
@[scoped simp] theorem sb_join_dual : (Str.ofString "join" == Str.ofString "dual") = false := by decide +kernel
@[scoped simp] theorem sk_great : PyData.strOk (Str.ofString "great") = true := by decide +kernel
@[scoped simp] theorem sb_great_set : (Str.ofString "great" == Str.ofString "set") = false := by decide +kernel
@[scoped simp] theorem sb_great_point : (Str.ofString "great" == Str.ofString "point") = false := by decide +kernel
@[scoped simp] theorem sb_great_with : (Str.ofString "great" == Str.ofString "with") = false := by decide +kernel
@[scoped simp] theorem sb_great_join : (Str.ofString "great" == Str.ofString "join") = false := by decide +kernel
@[scoped simp] theorem sb_great_least : (Str.ofString "great" == Str.ofString "least") = false := by decide +kernel
@[scoped simp] theorem sb_great_dual : (Str.ofString "great" == Str.ofString "dual") = false := by decide +kernel
@[scoped simp] theorem sk_least : PyData.strOk (Str.ofString "least") = true := by decide +kernel
@[scoped simp] theorem sb_least_set : (Str.ofString "least" == Str.ofString "set") = false := by decide +kernel
@[scoped simp] theorem sb_least_point : (Str.ofString "least" == Str.ofString "point") = false := by decide +kernel
@[scoped simp] theorem sb_least_with : (Str.ofString "least" == Str.ofString "with") = false := by decide +kernel
@[scoped simp] theorem sb_least_join : (Str.ofString "least" == Str.ofString "join") = false := by decide +kernel
@[scoped simp] theorem sb_least_great : (Str.ofString "least" == Str.ofString "great") = false := by decide +kernel
@[scoped simp] theorem sb_least_dual : (Str.ofString "least" == Str.ofString "dual") = false := by decide +kernel
@[scoped simp] theorem sk_dual : PyData.strOk (Str.ofString "dual") = true := by decide +kernel
@[scoped simp] theorem sb_dual_set : (Str.ofString "dual" == Str.ofString "set") = false := by decide +kernel
@[scoped simp] theorem sb_dual_point : (Str.ofString "dual" == Str.ofString "point") = false := by decide +kernel
@[scoped simp] theorem sb_dual_with : (Str.ofString "dual" == Str.ofString "with") = false := by decide +kernel
@[scoped simp] theorem sb_dual_join : (Str.ofString "dual" == Str.ofString "join") = false := by decide +kernel
@[scoped simp] theorem sb_dual_great : (Str.ofString "dual" == Str.ofString "great") = false := by decide +kernel
@[scoped simp] theorem sb_dual_least : (Str.ofString "dual" == Str.ofString "least") = false := by decide +kernel
@[scoped simp] theorem sk_E : PyData.strOk (Str.ofString "") = true := by decide +kernel
@[scoped simp] theorem sb_E_set : (Str.ofString "" == Str.ofString "set") = false := by decide +kernel
@[scoped simp] theorem sb_E_point : (Str.ofString "" == Str.ofString "point") = false := by decide +kernel
@[scoped simp] theorem sb_E_with : (Str.ofString "" == Str.ofString "with") = false := by decide +kernel
@[scoped simp] theorem sb_E_join : (Str.ofString "" == Str.ofString "join") = false := by decide +kernel
@[scoped simp] theorem sb_E_great : (Str.ofString "" == Str.ofString "great") = false := by decide +kernel
@[scoped simp] theorem sb_E_least : (Str.ofString "" == Str.ofString "least") = false := by decide +kernel
@[scoped simp] theorem sb_E_dual : (Str.ofString "" == Str.ofString "dual") = false := by decide +kernel
@[scoped simp] theorem sk_Set : PyData.strOk (Str.ofString "Set") = true := by decide +kernel
@[scoped simp] theorem sb_Set_set : (Str.ofString "Set" == Str.ofString "set") = false := by decide +kernel
@[scoped simp] theorem sb_Set_point : (Str.ofString "Set" == Str.ofString "point") = false := by decide +kernel
@[scoped simp] theorem sb_Set_with : (Str.ofString "Set" == Str.ofString "with") = false := by decide +kernel
@[scoped simp] theorem sb_Set_join : (Str.ofString "Set" == Str.ofString "join") = false := by decide +kernel
@[scoped simp] theorem sb_Set_great : (Str.ofString "Set" == Str.ofString "great") = false := by decide +kernel
@[scoped simp] theorem sb_Set_least : (Str.ofString "Set" == Str.ofString "least") = false := by decide +kernel
@[scoped simp] theorem sb_Set_dual : (Str.ofString "Set" == Str.ofString "dual") = false := by decide +kernel
@[scoped simp] theorem sk_sets : PyData.strOk (Str.ofString "sets") = true := by decide +kernel
@[scoped simp] theorem sb_sets_set : (Str.ofString "sets" == Str.ofString "set") = false := by decide +kernel
@[scoped simp] theorem sb_sets_point : (Str.ofString "sets" == Str.ofString "point") = false := by decide +kernel
@[scoped simp] theorem sb_sets_with : (Str.ofString "sets" == Str.ofString "with") = false := by decide +kernel
@[scoped simp] theorem sb_sets_join : (Str.ofString "sets" == Str.ofString "join") = false := by decide +kernel
@[scoped simp] theorem sb_sets_great : (Str.ofString "sets" == Str.ofString "great") = false := by decide +kernel
@[scoped simp] theorem sb_sets_least : (Str.ofString "sets" == Str.ofString "least") = false := by decide +kernel
@[scoped simp] theorem sb_sets_dual : (Str.ofString "sets" == Str.ofString "dual") = false := by decide +kernel
@[scoped simp] theorem sb_0_set : (Str.ofString "0" == Str.ofString "set") = false := by decide +kernel
@[scoped simp] theorem sb_0_point : (Str.ofString "0" == Str.ofString "point") = false := by decide +kernel
@[scoped simp] theorem sb_0_with : (Str.ofString "0" == Str.ofString "with") = false := by decide +kernel
@[scoped simp] theorem sb_0_join : (Str.ofString "0" == Str.ofString "join") = false := by decide +kernel
@[scoped simp] theorem sb_0_great : (Str.ofString "0" == Str.ofString "great") = false := by decide +kernel
@[scoped simp] theorem sb_0_least : (Str.ofString "0" == Str.ofString "least") = false := by decide +kernel
@[scoped simp] theorem sb_0_dual : (Str.ofString "0" == Str.ofString "dual") = false := by decide +kernel
@[scoped simp] theorem sk_last : PyData.strOk (Str.ofString "last") = true := by decide +kernel
@[scoped simp] theorem sk_large : PyData.strOk (Str.ofString "large") = true := by decide +kernel
end JK.JKS

end
section
set_option linter.all false
set_option autoImplicit false
set_option maxRecDepth 100000
/-! JkPl: the places of a point, duals. -/
namespace JK.JKS
open PySem
/-- the places of a point's sets -/
def plN (fs : List Nat) (x : Nat) : Nat := orN ((List.range fs.length).filter fun k => (fs.getD k 0).testBit x)
theorem zipIdx_rg (fs : List Nat) : fs.zipIdx = (List.range fs.length).map fun k => (fs.getD k 0, k) := by
  apply List.ext_getElem
  · simp
  · intro i h1 h2
    have h3 : i < fs.length := by simpa using h1
    simp [h3]
theorem pl_bit (fs : List Nat) (x k : Nat) : (plN fs x).testBit k = (decide (k < fs.length) && (fs.getD k 0).testBit x) := by
  rw [plN, orN_bit]
  simp only [List.mem_filter, List.mem_range, Bool.decide_and, Bool.decide_eq_true]
theorem pl_lt (fs : List Nat) (x : Nat) : plN fs x < 2 ^ fs.length := orN_lt fun k hk => List.mem_range.mp (List.mem_filter.mp hk).1
theorem pl_pos (fs : List Nat) (x : Nat) : 0 < plN fs x ↔ (uni fs).testBit x = true := by
  rw [uni_bit, List.any_eq_true]
  constructor
  · intro h
    obtain ⟨k, hk⟩ := Nat.exists_testBit_of_ne_zero (Nat.ne_of_gt h)
    rw [pl_bit, Bool.and_eq_true, decide_eq_true_eq] at hk
    refine ⟨fs.getD k 0, ?_, hk.2⟩
    simp [hk.1]
  · rintro ⟨s, hs, hb⟩
    obtain ⟨k, hk, rfl⟩ := List.mem_iff_getElem.mp hs
    refine Nat.pos_of_ne_zero fun h0 => ?_
    have := pl_bit fs x k
    rw [h0, Nat.zero_testBit] at this
    simp [hk, hb] at this
theorem pl_sum (fs : List Nat) (x : Nat) : (((List.range fs.length).filter fun k => (fs.getD k 0).testBit x).map fun k => 2 ^ k).sum = plN fs x := (orN_sum (List.nodup_range.filter _)).symm
/-- the dual -/
def dualN (fs : List Nat) : List Nat := mkN ((pin (uni fs)).map (plN fs))
theorem dual_rg (fs : List Nat) : mkN ((List.range 6).map (plN fs)) = dualN fs := mk_ext fun v hv => by
  simp only [List.mem_map, List.mem_range]
  constructor
  · rintro ⟨x, h1, rfl⟩
    exact ⟨x, mem_pin.mpr ⟨h1, (pl_pos fs x).mp hv⟩, rfl⟩
  · rintro ⟨x, h1, rfl⟩
    exact ⟨x, (mem_pin.mp h1).1, rfl⟩
end JK.JKS

end
section
set_option linter.all false
set_option autoImplicit false
set_option maxRecDepth 100000
/-! JkPl2: families of one point, tuples of one thing. -/
namespace JK.JKS
open PySem
theorem pin_asc (u : Nat) : (pin u).Pairwise (· < ·) := (range_asc 6).filter _
theorem one_of {l : List Nat} (h : l.Pairwise (· < ·)) {x : Nat} (hx : x ∈ l) : l = [x] ↔ ∀ y ∈ l, y = x := by
  constructor
  · rintro rfl y hy
    simpa using hy
  · intro ha
    refine asc_ext h (List.pairwise_singleton _ _) fun y => ⟨fun hy => by simpa using ha y hy, fun hy => ?_⟩
    have : y = x := by simpa using hy
    exact this ▸ hx
theorem one_len {l : List Nat} (h : l.Pairwise (· < ·)) {x : Nat} (hx : x ∈ l) : l = [x] ↔ ¬ 1 < l.length := by
  constructor
  · rintro rfl; simp
  · intro hl
    match l, hx, hl with
    | [a], hx, _ =>
      have : x = a := by simpa using hx
      rw [this]
    | a :: b :: r, _, hl => simp at hl
theorem rest_bit : ∀ s < 64, ∀ x < 6, (0 < s - (s &&& 2 ^ x)) = ((List.range 6).any fun y => !(y == x) && s.testBit y) := by decide +kernel
theorem pt_iff {fs : List Nat} (hF : Fam fs) {x : Nat} (hx : x ∈ pin (uni fs)) : mkN (fs.map fun s => s - (s &&& 2 ^ x)) = [] ↔ pin (uni fs) = [x] := by
  obtain ⟨x6, _⟩ := mem_pin.mp hx
  rw [one_of (pin_asc _) hx]
  constructor
  · intro h y hy
    obtain ⟨y6, hb⟩ := mem_pin.mp hy
    rw [uni_bit, List.any_eq_true] at hb
    obtain ⟨s, hs, hb⟩ := hb
    by_cases c : y = x
    · exact c
    · have : 0 < s - (s &&& 2 ^ x) := by
        rw [rest_bit s (hF.lt s hs) x x6, List.any_eq_true]
        exact ⟨y, List.mem_range.mpr y6, by simp [c, hb]⟩
      have m : s - (s &&& 2 ^ x) ∈ mkN (fs.map fun s => s - (s &&& 2 ^ x)) := mem_mk.mpr ⟨List.mem_map.mpr ⟨s, hs, rfl⟩, this⟩
      rw [h] at m
      simp at m
  · intro h
    refine List.eq_nil_iff_forall_not_mem.mpr fun v hv => ?_
    obtain ⟨h1, h2⟩ := mem_mk.mp hv
    obtain ⟨s, hs, rfl⟩ := List.mem_map.mp h1
    rw [rest_bit s (hF.lt s hs) x x6, List.any_eq_true] at h2
    obtain ⟨y, hy, hb⟩ := h2
    simp only [Bool.and_eq_true, Bool.not_eq_true', beq_eq_false_iff_ne] at hb
    exact hb.1 (h y (mem_pin.mpr ⟨List.mem_range.mp hy, by rw [uni_bit, List.any_eq_true]; exact ⟨s, hs, hb.2⟩⟩))
@[scoped simp] theorem eq1_i (xs : List Nat) (x : Nat) : PyData.eqvAll (xs.map fun x : Nat => .int (x : Int)) [.int (x : Int)] = decide (xs = [x]) := eqvAll_nats xs [x]
theorem eq1_o {d : D} (h : ∀ a : Nat, PyData.eqv (.int (a : Int)) d = false) (xs : List Nat) : PyData.eqvAll (xs.map fun x : Nat => .int (x : Int)) [d] = false := by
  cases xs with
  | nil => simp
  | cons a r => simp [h]
@[scoped simp] theorem eq1_m (xs : List Nat) : PyData.eqvAll (xs.map fun x : Nat => .int (x : Int)) [.int (-1)] = false := eq1_o (fun a => by simp) xs
@[scoped simp] theorem eq1_n (xs : List Nat) : PyData.eqvAll (xs.map fun x : Nat => .int (x : Int)) [.none] = false := eq1_o (fun a => by simp) xs
@[scoped simp] theorem eq1_s (xs : List Nat) (s : Str) : PyData.eqvAll (xs.map fun x : Nat => .int (x : Int)) [.str s] = false := eq1_o (fun a => by simp) xs
@[scoped simp] theorem eq1_t (xs : List Nat) (s : List D) : PyData.eqvAll (xs.map fun x : Nat => .int (x : Int)) [.tuple s] = false := eq1_o (fun a => by simp [PyData.eqv]) xs
@[scoped simp] theorem eq1_l (xs : List Nat) (s : List D) : PyData.eqvAll (xs.map fun x : Nat => .int (x : Int)) [.list s] = false := eq1_o (fun a => by simp [PyData.eqv]) xs
end JK.JKS

end
section
set_option linter.all false
set_option maxRecDepth 10000
namespace JK
open PySem
def k81_is_whole : Df := ⟨1, 1, [], false,
  [.ret (.and (.isi "int" (.var 0)) (.not (.isi "bool" (.var 0))))]⟩
def k81_is_whole_N : List String := ["value"]
def k81_has : Df := ⟨2, 2, [], false,
  [.ret (.cmp .eq (.op .band (.op .shr (.var 0) (.var 1)) (.int 1)) (.int 1))]⟩
def k81_has_N : List String := ["items", "point"]
def k81_is_within : Df := ⟨2, 2, [], false,
  [.ret (.cmp .eq (.op .band (.var 0) (.var 1)) (.var 0))]⟩
def k81_is_within_N : List String := ["one", "two"]
def k81_points_in : Df := ⟨1, 2, [], false,
  [.ret (.comp (.var 1) (.nm 1) .rng [.glo "MOST_POINTS"] [.call "has" [.var 0, .var 1]] [1])]⟩
def k81_points_in_N : List String := ["items", "x"]
def k81_size_of : Df := ⟨1, 1, [], false,
  [.ret (.bi .len [.call "points_in" [.var 0]])]⟩
def k81_size_of_N : List String := ["items"]
def k81_set_of : Df := ⟨1, 3, [], false,
  [.asg 1 (.int 0),
   .for_ (.nm 2) .seq [.var 0]
    [.asg 1 (.op .bor (.var 1) (.op .shl (.int 1) (.var 2)))],
   .ret (.var 1)]⟩
def k81_set_of_N : List String := ["points", "found", "x"]
def k81_is_set : Df := ⟨1, 1, [], false,
  [.ret (.and (.call "is_whole" [.var 0]) (.chain .lt .lt (.int 0) (.var 0) (.op .shl (.int 1) (.glo "MOST_POINTS"))))]⟩
def k81_is_set_N : List String := ["value"]
def k81_is_family : Df := ⟨1, 4, [], false,
  [.ifs (.or (.not (.isi "tuple" (.var 0))) (.or (.not (.chain .le .le (.int 1) (.bi .len [.var 0]) (.glo "MOST_SETS"))) (.not (.bi .all [.comp (.call "is_set" [.var 1]) (.nm 1) .seq [.var 0] [] [1]]))))
    [.ret (.bl false)]
    [],
   .ret (.bi .all [.comp (.cmp .lt (.var 2) (.var 3)) (.tp [2, 3]) .zip [.var 0, .slc (.var 0) [.int 1] []] [] [2, 3]])]⟩
def k81_is_family_N : List String := ["value", "items", "one", "two"]
def k81_check_family : Df := ⟨1, 1, [], false,
  [.ifs (.not (.call "is_family" [.var 0]))
    [.raise "Malformed" []]
    []]⟩
def k81_check_family_N : List String := ["value"]
def k81_union_of : Df := ⟨1, 3, [], false,
  [.asg 1 (.int 0),
   .for_ (.nm 2) .seq [.var 0]
    [.asg 1 (.op .bor (.var 1) (.var 2))],
   .ret (.var 1)]⟩
def k81_union_of_N : List String := ["sets", "found", "items"]
def k81_stand_together : Df := ⟨3, 4, [], false,
  [.ret (.bi .any [.comp (.and (.call "has" [.var 3, .var 1]) (.call "has" [.var 3, .var 2])) (.nm 3) .seq [.var 0] [] [3]])]⟩
def k81_stand_together_N : List String := ["family", "one", "two", "items"]
def k81_check_way : Df := ⟨1, 1, [], false,
  [.ifs (.or (.not (.isi "str" (.var 0))) (.cmp .notIn (.var 0) (.glo "WAYS")))
    [.raise "Malformed" []]
    []]⟩
def k81_check_way_N : List String := ["way"]
def k81_points_tuple : Df := ⟨1, 1, [], false,
  [.ret (.call "points_in" [.call "union_of" [.var 0]])]⟩
def k81_points_tuple_N : List String := ["family"]
def k81_spoils : Df := ⟨4, 8, [], false,
  [.for_ (.nm 4) .seq [.var 0]
    [.asg 5 (.comp (.sub (.var 3) (.var 6)) (.tp [6, 7]) .enm [.slc (.var 2) [] [.bi .len [.var 3]]] [.call "is_within" [.op .shl (.int 1) (.var 7), .var 4]] [6, 7]),
     .ifs (.and (.cmp .eq (.var 1) (.str (Str.ofString "all"))) (.cmp .lt (.bi .lset [.var 5]) (.bi .len [.var 5])))
      [.ret (.var 4)]
      [],
     .ifs (.and (.cmp .eq (.var 1) (.str (Str.ofString "some"))) (.and (.chain .eq .gt (.bi .len [.var 5]) (.call "size_of" [.var 4]) (.int 1)) (.cmp .eq (.bi .lset [.var 5]) (.int 1))))
      [.ret (.var 4)]
      []],
   .ret .non]⟩
def k81_spoils_N : List String := ["family", "way", "points", "row", "items", "found", "k", "x"]
def k81_check_many : Df := ⟨2, 2, [], false,
  [.ifs (.or (.not (.call "is_whole" [.var 0])) (.not (.chain .le .le (.var 1) (.var 0) (.glo "MOST_COLOURS"))))
    [.raise "Malformed" []]
    []]⟩
def k81_check_many_N : List String := ["value", "least"]
def k81_partings : Df := ⟨1, 5, [], false,
  [.asg 1 (.lst [.tup []]),
   .for_ (.nm 2) .rng [.var 0]
    [.asg 1 (.comp2 (.op .add (.var 3) (.tup [.var 4])) (.nm 3) .seq [.var 1] [] (.nm 4) .rng [.op .add (.bi .max [.op .add (.tup [.neg (.int 1)]) (.var 3)]) (.int 2)] [] [3, 4] [4])],
   .ret (.var 1)]⟩
def k81_partings_N : List String := ["many", "found", "_", "row", "c"]
def k81_class_counts : Df := ⟨2, 5, [], false,
  [.asg 2 (.call "points_tuple" [.var 0]),
   .own 3 (.op .mul (.lst [.int 0]) (.op .add (.bi .len [.var 2]) (.int 1))),
   .for_ (.nm 4) .seq [.call "partings" [.bi .len [.var 2]]]
    [.ifs (.cmp .is_ (.call "spoils" [.var 0, .var 1, .var 2, .var 4]) .non)
      [.augs 3 (.op .add (.bi .max [.var 4]) (.int 1)) .add (.int 1)]
      []],
   .ret (.bor 3)]⟩
def k81_class_counts_N : List String := ["family", "way", "points", "counts", "row"]
def k81_falling : Df := ⟨2, 4, [], false,
  [.asg 2 (.int 1),
   .for_ (.nm 3) .rng [.var 1]
    [.asg 2 (.op .mul (.var 2) (.op .sub (.var 0) (.var 3)))],
   .ret (.var 2)]⟩
def k81_falling_N : List String := ["many", "size", "found", "k"]
def k81_count : Df := ⟨3, 5, [], false,
  [.expr (.call "check_family" [.var 0]),
   .expr (.call "check_way" [.var 1]),
   .expr (.call "check_many" [.var 2, .int 0]),
   .ret (.bi .sum [.comp (.op .mul (.var 4) (.call "falling" [.var 2, .var 3])) (.tp [3, 4]) .enm [.call "class_counts" [.var 0, .var 1]] [] [3, 4]])]⟩
def k81_count_N : List String := ["family", "way", "many", "size", "ways"]
def k81_fewest : Df := ⟨2, 4, [], false,
  [.expr (.call "check_family" [.var 0]),
   .expr (.call "check_way" [.var 1]),
   .ret (.sub (.comp (.var 2) (.tp [2, 3]) .enm [.call "class_counts" [.var 0, .var 1]] [.cmp .gt (.var 3) (.int 0)] [2, 3]) (.int 0))]⟩
def k81_fewest_N : List String := ["family", "way", "size", "ways"]
def k81_greatest_alone : Df := ⟨1, 7, [], false,
  [.expr (.call "check_family" [.var 0]),
   .asg 1 (.call "points_tuple" [.var 0]),
   .asg 2 (.tup []),
   .asg 3 (.lst [.tup []]),
   .for_ (.nm 4) .seq [.var 1]
    [.asg 3 (.op .add (.var 3) (.comp (.op .add (.var 5) (.tup [.var 4])) (.nm 5) .seq [.var 3] [.not (.bi .any [.comp (.call "stand_together" [.var 0, .var 4, .var 6]) (.nm 6) .seq [.var 5] [] [6]])] [5]))],
   .for_ (.nm 5) .seq [.var 3]
    [.ifs (.cmp .gt (.bi .len [.var 5]) (.bi .len [.var 2]))
      [.asg 2 (.var 5)]
      []],
   .ret (.tup [.bi .len [.var 2], .var 2])]⟩
def k81_greatest_alone_N : List String := ["family", "points", "best", "rows", "x", "row", "y"]
def k81_greatest_lot : Df := ⟨1, 6, [], false,
  [.expr (.call "check_family" [.var 0]),
   .asg 1 (.lst [.tup []]),
   .for_ (.nm 2) .seq [.call "points_tuple" [.var 0]]
    [.asg 1 (.op .add (.var 1) (.comp (.op .add (.var 3) (.tup [.var 2])) (.nm 3) .seq [.var 1] [.bi .all [.comp (.call "stand_together" [.var 0, .var 2, .var 4]) (.nm 4) .seq [.var 3] [] [4]]] [3]))],
   .asg 5 (.bi .max [.comp (.bi .len [.var 3]) (.nm 3) .seq [.var 1] [] [3]]),
   .ret (.tup [.var 5, .sub (.comp (.var 3) (.nm 3) .seq [.var 1] [.cmp .eq (.bi .len [.var 3]) (.var 5)] [3]) (.int 0)])]⟩
def k81_greatest_lot_N : List String := ["family", "rows", "x", "row", "y", "best"]
def k81_kernel_counts : Df := ⟨1, 7, [], false,
  [.expr (.call "check_family" [.var 0]),
   .asg 1 (.call "points_tuple" [.var 0]),
   .own 2 (.op .mul (.lst [.int 0]) (.op .add (.bi .len [.var 1]) (.int 1))),
   .asg 3 (.lst [.tup []]),
   .for_ (.nm 4) .seq [.var 1]
    [.asg 3 (.op .add (.var 3) (.comp (.op .add (.var 5) (.tup [.var 4])) (.nm 5) .seq [.var 3] [] [5]))],
   .for_ (.nm 5) .seq [.var 3]
    [.ifs (.not (.bi .any [.comp (.call "is_within" [.var 6, .call "set_of" [.var 5]]) (.nm 6) .seq [.var 0] [] [6]]))
      [.augs 2 (.bi .len [.var 5]) .add (.int 1)]
      []],
   .ret (.bi .tuple [.bor 2])]⟩
def k81_kernel_counts_N : List String := ["family", "points", "counts", "rows", "x", "row", "items"]
def k81_law_draw : Df := ⟨1, 3, [], true,
  [.asg 1 (.int 7),
   .for_ (.nm 2) .seq [.var 0]
    [.asg 1 (.op .mod (.bi .int [.op .add (.op .add (.op .mul (.var 1) (.int 48271)) (.op .mod (.bi .abs [.bi .int [.var 2]]) (.int 65521))) (.int 1)]) (.int 2147483647))],
   .ret (.lst [.comp (.bi .abs [.bi .int [.var 2]]) (.nm 2) .seq [.var 0] [] [2], .neg (.int 1), .int 0, .var 1])]⟩
def k81_law_draw_N : List String := ["script", "seed", "cell"]
def k81_law_take : Df := ⟨2, 3, [0], false,
  [.ifs (.cmp .eq (.sub (.bor 0) (.int 2)) (.int 0))
    [.seti 0 (.int 1) (.op .add (.sub (.bor 0) (.int 1)) (.int 1)),
     .ifs (.cmp .lt (.sub (.bor 0) (.int 1)) (.bi .len [.sub (.bor 0) (.int 0)]))
      [.seti 0 (.int 2) (.sub (.sub (.bor 0) (.int 0)) (.sub (.bor 0) (.int 1)))]
      [],
     .ifs (.cmp .eq (.sub (.bor 0) (.int 2)) (.int 0))
      [.seti 0 (.int 3) (.op .mod (.bi .int [.op .add (.op .mul (.sub (.bor 0) (.int 3)) (.int 48271)) (.int 11)]) (.int 2147483647)),
       .seti 0 (.int 2) (.sub (.bor 0) (.int 3))]
      []]
    [],
   .asg 2 (.op .mod (.bi .int [.sub (.bor 0) (.int 2)]) (.var 1)),
   .seti 0 (.int 2) (.op .fdiv (.sub (.bor 0) (.int 2)) (.var 1)),
   .ret (.var 2)]⟩
def k81_law_take_N : List String := ["draw", "many", "found"]
def k81_law_order : Df := ⟨2, 4, [0], false,
  [.par [(2, true), (3, true)] [.bi .lrng [.var 1], .lst []],
   .whl (.cmp .ne (.bor 2) (.lst []))
    [.app 3 (.pop 2 [.call "_law_take" [.bor 0, .bi .len [.bor 2]]])],
   .ret (.bor 3)]⟩
def k81_law_order_N : List String := ["draw", "many", "left", "order"]
def k81_law_in : Df := ⟨1, 2, [], false,
  [.ret (.comp (.var 1) (.nm 1) .rng [.int 6] [.cmp .eq (.op .band (.op .shr (.var 0) (.var 1)) (.int 1)) (.int 1)] [1])]⟩
def k81_law_in_N : List String := ["items", "x"]
def k81_law_items : Df := ⟨4, 10, [0, 3], false,
  [.asg 4 (.op .add (.int 1) (.call "_law_take" [.bor 0, .op .sub (.op .shl (.int 1) (.var 2)) (.int 1)])),
   .ifs (.cmp .eq (.var 1) (.int 1))
    [.asg 5 (.call "_law_take" [.bor 0, .var 2]),
     .asg 6 (.op .add (.var 5) (.call "_law_take" [.bor 0, .op .sub (.var 2) (.var 5)])),
     .ret (.bi .sum [.comp (.op .shl (.int 1) (.var 7)) (.nm 7) .rng [.var 5, .op .add (.var 6) (.int 1)] [] [7]])]
    [],
   .ifs (.cmp .eq (.var 1) (.int 2))
    [.ret (.op .bor (.op .shl (.int 1) (.call "_law_take" [.bor 0, .var 2])) (.op .shl (.int 1) (.call "_law_take" [.bor 0, .var 2])))]
    [],
   .ifs (.cmp .eq (.var 1) (.int 3))
    [.ret (.op .bor (.op .bor (.op .shl (.int 1) (.call "_law_take" [.bor 0, .var 2])) (.op .shl (.int 1) (.call "_law_take" [.bor 0, .var 2]))) (.op .shl (.int 1) (.call "_law_take" [.bor 0, .var 2])))]
    [],
   .ifs (.cmp .eq (.var 1) (.int 4))
    [.ret (.ite (.cmp .ne (.bor 3) (.lst [])) (.op .band (.var 4) (.sub (.bor 3) (.call "_law_take" [.bor 0, .bi .len [.bor 3]]))) (.op .sub (.op .shl (.int 1) (.var 2)) (.int 1)))]
    [],
   .ifs (.cmp .eq (.var 1) (.int 5))
    [.ret (.op .bor (.var 4) (.int 1))]
    [],
   .ifs (.cmp .eq (.var 1) (.int 6))
    [.asg 8 (.comp (.var 7) (.nm 7) .rng [.var 2] [.not (.bi .any [.comp (.cmp .eq (.op .band (.op .shr (.var 9) (.var 7)) (.int 1)) (.int 1)) (.nm 9) .seq [.bor 3] [] [9]])] [7]),
     .ret (.bi .sum [.comp (.op .shl (.int 1) (.var 7)) (.nm 7) .seq [.var 8] [.cmp .eq (.call "_law_take" [.bor 0, .int 2]) (.int 0)] [7]])]
    [],
   .ifs (.and (.cmp .eq (.var 1) (.int 7)) (.cmp .ne (.bor 3) (.lst [])))
    [.ret (.op .bor (.op .band (.sub (.bor 3) (.call "_law_take" [.bor 0, .bi .len [.bor 3]])) (.var 4)) (.op .shl (.int 1) (.call "_law_take" [.bor 0, .var 2])))]
    [],
   .ret (.var 4)]⟩
def k81_law_items_N : List String := ["draw", "style", "many", "found", "any_set", "low", "high", "x", "free", "items"]
def k81_law_family : Df := ⟨2, 11, [0], false,
  [.par [(2, false), (3, false)] [.op .add (.int 1) (.call "_law_take" [.bor 0, .int 6]), .call "_law_take" [.bor 0, .int 13]],
   .asg 4 (.lst [.lst [.int 3, .int 6, .int 12, .int 17, .int 24], .lst [.int 3, .int 6, .int 9, .int 12, .int 15], .lst [.int 3, .int 5, .int 6, .int 7], .lst [.int 7, .int 11, .int 22, .int 37], .lst [.int 7, .int 25, .int 42, .int 52], .lst [.int 11, .int 13, .int 26, .int 28]]),
   .own 5 (.lst []),
   .ifs (.and (.cmp .gt (.var 3) (.int 9)) (.cmp .gt (.var 1) (.int 4)))
    [.own 5 (.bi .list [.sub (.var 4) (.call "_law_take" [.bor 0, .int 6])]),
     .ifs (.cmp .eq (.call "_law_take" [.bor 0, .int 2]) (.int 0))
      [.expr (.pop 5 [.call "_law_take" [.bor 0, .bi .len [.bor 5]]])]
      []]
    [],
   .for_ (.nm 6) .rng [.ite (.cmp .eq (.bor 5) (.lst [])) (.op .add (.int 1) (.call "_law_take" [.bor 0, .var 1])) (.call "_law_take" [.bor 0, .int 2])]
    [.asg 7 (.call "_law_items" [.bor 0, .var 3, .var 2, .bor 5]),
     .ifs (.and (.cmp .gt (.var 7) (.int 0)) (.cmp .notIn (.var 7) (.bor 5)))
      [.app 5 (.var 7)]
      []],
   .asg 8 (.call "_law_order" [.bor 0, .int 6]),
   .asg 9 (.comp (.bi .sum [.comp (.op .shl (.int 1) (.sub (.var 8) (.var 10))) (.nm 10) .seq [.call "_law_in" [.var 7]] [] [10]]) (.nm 7) .seq [.ite (.cmp .ne (.bor 5) (.lst [])) (.bor 5) (.lst [.int 1])] [] [7]),
   .ret (.bi .tuple [.bi .sorted [.var 9]])]⟩
def k81_law_family_N : List String := ["draw", "most", "many", "style", "told", "found", "turn", "items", "names", "named", "x"]
def k81_law_every : Df := ⟨1, 3, [], false,
  [.ret (.comp (.var 1) (.nm 1) .rng [.int 6] [.bi .any [.comp (.cmp .eq (.op .band (.op .shr (.var 2) (.var 1)) (.int 1)) (.int 1)) (.nm 2) .seq [.var 0] [] [2]]] [1])]⟩
def k81_law_every_N : List String := ["family", "x", "items"]
def k81_law_near : Df := ⟨3, 4, [], false,
  [.ret (.bi .any [.comp (.and (.cmp .eq (.op .band (.op .shr (.var 3) (.var 1)) (.int 1)) (.int 1)) (.cmp .eq (.op .band (.op .shr (.var 3) (.var 2)) (.int 1)) (.int 1))) (.nm 3) .seq [.var 0] [] [3]])]⟩
def k81_law_near_N : List String := ["family", "x", "y", "items"]
def k81_law_odd : Df := ⟨1, 1, [0], false,
  [.ret (.sub (.lst [.tup [], .tup [.int 0], .tup [.int 3, .int 3], .tup [.int 5, .int 3], .tup [.int 64], .lst [.int 3], .non, .int 3, .tup [.bl true], .tup [.int 1, .int 2, .int 3, .int 4, .int 5, .int 6, .int 7, .int 8, .int 9], .tup [.str (Str.ofString "3")], .tup [.neg (.int 1)]]) (.call "_law_take" [.bor 0, .int 12]))]⟩
def k81_law_odd_N : List String := ["draw"]
def k81_law_sets : Df := ⟨1, 4, [], false,
  [.asg 1 (.lst [.tup []]),
   .for_ (.nm 2) .seq [.var 0]
    [.asg 1 (.op .add (.var 1) (.comp (.op .add (.var 3) (.tup [.var 2])) (.nm 3) .seq [.var 1] [] [3]))],
   .ret (.var 1)]⟩
def k81_law_sets_N : List String := ["points", "rows", "x", "row"]
def k81_law_together : Df := ⟨2, 4, [], false,
  [.ret (.bi .all [.comp (.bi .all [.comp (.call "_law_near" [.var 0, .var 3, .var 2]) (.nm 2) .seq [.var 1] [] [2]]) (.nm 3) .seq [.var 1] [] [3]])]⟩
def k81_law_together_N : List String := ["family", "row", "y", "x"]
def k81_law_alone : Df := ⟨2, 4, [], false,
  [.ret (.not (.bi .any [.comp (.bi .any [.comp (.and (.cmp .ne (.var 3) (.var 2)) (.call "_law_near" [.var 0, .var 3, .var 2])) (.nm 2) .seq [.var 1] [] [2]]) (.nm 3) .seq [.var 1] [] [3]]))]⟩
def k81_law_alone_N : List String := ["family", "row", "y", "x"]
def k81_law_falls : Df := ⟨2, 2, [], false,
  [.tri [.ifs (.cmp .eq (.var 0) (.int 0))
      [.expr (.call "greatest_alone" [.var 1])]
      [.ifs (.cmp .eq (.var 0) (.int 1))
        [.expr (.call "greatest_lot" [.var 1])]
        [.expr (.call "kernel_counts" [.var 1])]]]
    [("Malformed", none, [.ret (.bl true)])],
   .ret (.bl false)]⟩
def k81_law_falls_N : List String := ["which", "family"]
def k81_law_best : Df := ⟨2, 4, [], false,
  [.asg 2 (.bi .max [.comp (.bi .len [.var 3]) (.nm 3) .seq [.var 1] [] [3]]),
   .ifs (.or (.not (.isi "tuple" (.var 0))) (.or (.cmp .ne (.bi .len [.var 0]) (.int 2)) (.or (.cmp .ne (.sub (.var 0) (.int 0)) (.var 2)) (.isi "bool" (.sub (.var 0) (.int 0))))))
    [.ret (.bl false)]
    [],
   .ret (.and (.cmp .eq (.bi .len [.sub (.var 0) (.int 1)]) (.var 2)) (.cmp .isIn (.sub (.var 0) (.int 1)) (.var 1)))]⟩
def k81_law_best_N : List String := ["told", "rows", "best", "row"]
def k81_law : Df := ⟨1, 16, [], false,
  [.own 1 (.call "_law_draw" [.var 0]),
   .asg 2 (.call "_law_family" [.bor 1, .int 8]),
   .asg 3 (.call "_law_every" [.var 2]),
   .asg 4 (.call "_law_sets" [.var 3]),
   .par [(5, false), (6, false)] [.comp (.var 7) (.nm 7) .seq [.var 4] [.call "_law_alone" [.var 2, .var 7]] [7], .comp (.var 7) (.nm 7) .seq [.var 4] [.call "_law_together" [.var 2, .var 7]] [7]],
   .ifs (.or (.not (.call "_law_best" [.call "greatest_alone" [.var 2], .var 5])) (.not (.call "_law_best" [.call "greatest_lot" [.var 2], .var 6])))
    [.ret (.bl false)]
    [],
   .own 8 (.lst []),
   .for_ (.nm 7) .seq [.var 4]
    [.asg 9 (.bi .sum [.comp (.op .shl (.int 1) (.var 10)) (.nm 10) .seq [.var 7] [] [10]]),
     .ifs (.not (.bi .any [.comp (.cmp .eq (.op .band (.var 11) (.var 9)) (.var 11)) (.nm 11) .seq [.var 2] [] [11]]))
      [.app 8 (.bi .len [.var 7])]
      []],
   .ifs (.cmp .ne (.call "kernel_counts" [.var 2]) (.bi .tuple [.comp (.me .count (.bor 8) [.var 12]) (.nm 12) .rng [.op .add (.bi .len [.var 3]) (.int 1)] [] [12]]))
    [.ret (.bl false)]
    [],
   .asg 13 (.call "fewest" [.var 2, .str (Str.ofString "all")]),
   .ifs (.or (.cmp .lt (.var 13) (.sub (.call "greatest_lot" [.var 2]) (.int 0))) (.cmp .lt (.op .mul (.var 13) (.sub (.call "greatest_alone" [.var 2]) (.int 0))) (.bi .len [.var 3])))
    [.ret (.bl false)]
    [],
   .ifs (.or (.cmp .ne (.call "count" [.var 2, .str (Str.ofString "all"), .op .sub (.var 13) (.int 1)]) (.int 0)) (.cmp .eq (.call "count" [.var 2, .str (Str.ofString "all"), .var 13]) (.int 0)))
    [.ret (.bl false)]
    [],
   .asg 14 (.call "_law_odd" [.bor 1]),
   .ret (.bi .all [.comp (.call "_law_falls" [.var 15, .var 14]) (.nm 15) .rng [.int 3] [] [15]])]⟩
def k81_law_N : List String := ["script", "draw", "family", "points", "rows", "alone", "lots", "row", "free", "items", "x", "one", "size", "least", "wrong", "which"]
def k81_G : String → Option D := fun x => match x with
  | "MOST_POINTS" => some (.int 6)
  | "MOST_SETS" => some (.int 8)
  | "WAYS" => some (.tuple [(.str (Str.ofString "some")), (.str (Str.ofString "all"))])
  | "MOST_COLOURS" => some (.int 20)
  | _ => none
def k81_P : Pg := ⟨fun f => match f with
  | "is_whole" => some k81_is_whole
  | "has" => some k81_has
  | "is_within" => some k81_is_within
  | "points_in" => some k81_points_in
  | "size_of" => some k81_size_of
  | "set_of" => some k81_set_of
  | "is_set" => some k81_is_set
  | "is_family" => some k81_is_family
  | "check_family" => some k81_check_family
  | "union_of" => some k81_union_of
  | "stand_together" => some k81_stand_together
  | "check_way" => some k81_check_way
  | "points_tuple" => some k81_points_tuple
  | "spoils" => some k81_spoils
  | "check_many" => some k81_check_many
  | "partings" => some k81_partings
  | "class_counts" => some k81_class_counts
  | "falling" => some k81_falling
  | "count" => some k81_count
  | "fewest" => some k81_fewest
  | "greatest_alone" => some k81_greatest_alone
  | "greatest_lot" => some k81_greatest_lot
  | "kernel_counts" => some k81_kernel_counts
  | "_law_draw" => some k81_law_draw
  | "_law_take" => some k81_law_take
  | "_law_order" => some k81_law_order
  | "_law_in" => some k81_law_in
  | "_law_items" => some k81_law_items
  | "_law_family" => some k81_law_family
  | "_law_every" => some k81_law_every
  | "_law_near" => some k81_law_near
  | "_law_odd" => some k81_law_odd
  | "_law_sets" => some k81_law_sets
  | "_law_together" => some k81_law_together
  | "_law_alone" => some k81_law_alone
  | "_law_falls" => some k81_law_falls
  | "_law_best" => some k81_law_best
  | "law" => some k81_law
  | _ => none, k81_G⟩
end JK

end
section
set_option linter.all false
set_option autoImplicit false
set_option maxRecDepth 100000
set_option Elab.async false
namespace S81
open PySem JK JK.JKS
variable {n : Nat}
theorem C_is_whole (n k : Nat) (a0 : D) : callP k81_P n (k + 1) "is_whole" [a0] = wrapC "is_whole" (finC false [] (evSs ⟨callP k81_P n k, k81_P.G, k81_P.io, k81_P.ff⟩ n [] false k81_is_whole.body [.sh a0])) :=
  (callP_s rfl).trans (congrArg (wrapC "is_whole") (bodyC_eq rfl rfl rfl (fun i hi => by cases hi)))
@[simp] theorem Io_is_whole : k81_P.io "is_whole" = [] := rfl
@[simp] theorem Ff_is_whole : k81_P.ff "is_whole" = false := rfl
theorem C_has (n k : Nat) (a0 a1 : D) : callP k81_P n (k + 1) "has" [a0, a1] = wrapC "has" (finC false [] (evSs ⟨callP k81_P n k, k81_P.G, k81_P.io, k81_P.ff⟩ n [] false k81_has.body [.sh a0, .sh a1])) :=
  (callP_s rfl).trans (congrArg (wrapC "has") (bodyC_eq rfl rfl rfl (fun i hi => by cases hi)))
@[simp] theorem Io_has : k81_P.io "has" = [] := rfl
@[simp] theorem Ff_has : k81_P.ff "has" = false := rfl
theorem C_is_within (n k : Nat) (a0 a1 : D) : callP k81_P n (k + 1) "is_within" [a0, a1] = wrapC "is_within" (finC false [] (evSs ⟨callP k81_P n k, k81_P.G, k81_P.io, k81_P.ff⟩ n [] false k81_is_within.body [.sh a0, .sh a1])) :=
  (callP_s rfl).trans (congrArg (wrapC "is_within") (bodyC_eq rfl rfl rfl (fun i hi => by cases hi)))
@[simp] theorem Io_is_within : k81_P.io "is_within" = [] := rfl
@[simp] theorem Ff_is_within : k81_P.ff "is_within" = false := rfl
theorem C_points_in (n k : Nat) (a0 : D) : callP k81_P n (k + 1) "points_in" [a0] = wrapC "points_in" (finC false [] (evSs ⟨callP k81_P n k, k81_P.G, k81_P.io, k81_P.ff⟩ n [] false k81_points_in.body [.sh a0, .un])) :=
  (callP_s rfl).trans (congrArg (wrapC "points_in") (bodyC_eq rfl rfl rfl (fun i hi => by cases hi)))
@[simp] theorem Io_points_in : k81_P.io "points_in" = [] := rfl
@[simp] theorem Ff_points_in : k81_P.ff "points_in" = false := rfl
theorem C_size_of (n k : Nat) (a0 : D) : callP k81_P n (k + 1) "size_of" [a0] = wrapC "size_of" (finC false [] (evSs ⟨callP k81_P n k, k81_P.G, k81_P.io, k81_P.ff⟩ n [] false k81_size_of.body [.sh a0])) :=
  (callP_s rfl).trans (congrArg (wrapC "size_of") (bodyC_eq rfl rfl rfl (fun i hi => by cases hi)))
@[simp] theorem Io_size_of : k81_P.io "size_of" = [] := rfl
@[simp] theorem Ff_size_of : k81_P.ff "size_of" = false := rfl
theorem C_set_of (n k : Nat) (a0 : D) : callP k81_P n (k + 1) "set_of" [a0] = wrapC "set_of" (finC false [] (evSs ⟨callP k81_P n k, k81_P.G, k81_P.io, k81_P.ff⟩ n [] false k81_set_of.body [.sh a0, .un, .un])) :=
  (callP_s rfl).trans (congrArg (wrapC "set_of") (bodyC_eq rfl rfl rfl (fun i hi => by cases hi)))
@[simp] theorem Io_set_of : k81_P.io "set_of" = [] := rfl
@[simp] theorem Ff_set_of : k81_P.ff "set_of" = false := rfl
theorem C_is_set (n k : Nat) (a0 : D) : callP k81_P n (k + 1) "is_set" [a0] = wrapC "is_set" (finC false [] (evSs ⟨callP k81_P n k, k81_P.G, k81_P.io, k81_P.ff⟩ n [] false k81_is_set.body [.sh a0])) :=
  (callP_s rfl).trans (congrArg (wrapC "is_set") (bodyC_eq rfl rfl rfl (fun i hi => by cases hi)))
@[simp] theorem Io_is_set : k81_P.io "is_set" = [] := rfl
@[simp] theorem Ff_is_set : k81_P.ff "is_set" = false := rfl
theorem C_is_family (n k : Nat) (a0 : D) : callP k81_P n (k + 1) "is_family" [a0] = wrapC "is_family" (finC false [] (evSs ⟨callP k81_P n k, k81_P.G, k81_P.io, k81_P.ff⟩ n [] false k81_is_family.body [.sh a0, .un, .un, .un])) :=
  (callP_s rfl).trans (congrArg (wrapC "is_family") (bodyC_eq rfl rfl rfl (fun i hi => by cases hi)))
@[simp] theorem Io_is_family : k81_P.io "is_family" = [] := rfl
@[simp] theorem Ff_is_family : k81_P.ff "is_family" = false := rfl
theorem C_check_family (n k : Nat) (a0 : D) : callP k81_P n (k + 1) "check_family" [a0] = wrapC "check_family" (finC false [] (evSs ⟨callP k81_P n k, k81_P.G, k81_P.io, k81_P.ff⟩ n [] false k81_check_family.body [.sh a0])) :=
  (callP_s rfl).trans (congrArg (wrapC "check_family") (bodyC_eq rfl rfl rfl (fun i hi => by cases hi)))
@[simp] theorem Io_check_family : k81_P.io "check_family" = [] := rfl
@[simp] theorem Ff_check_family : k81_P.ff "check_family" = false := rfl
theorem C_union_of (n k : Nat) (a0 : D) : callP k81_P n (k + 1) "union_of" [a0] = wrapC "union_of" (finC false [] (evSs ⟨callP k81_P n k, k81_P.G, k81_P.io, k81_P.ff⟩ n [] false k81_union_of.body [.sh a0, .un, .un])) :=
  (callP_s rfl).trans (congrArg (wrapC "union_of") (bodyC_eq rfl rfl rfl (fun i hi => by cases hi)))
@[simp] theorem Io_union_of : k81_P.io "union_of" = [] := rfl
@[simp] theorem Ff_union_of : k81_P.ff "union_of" = false := rfl
theorem C_stand_together (n k : Nat) (a0 a1 a2 : D) : callP k81_P n (k + 1) "stand_together" [a0, a1, a2] = wrapC "stand_together" (finC false [] (evSs ⟨callP k81_P n k, k81_P.G, k81_P.io, k81_P.ff⟩ n [] false k81_stand_together.body [.sh a0, .sh a1, .sh a2, .un])) :=
  (callP_s rfl).trans (congrArg (wrapC "stand_together") (bodyC_eq rfl rfl rfl (fun i hi => by cases hi)))
@[simp] theorem Io_stand_together : k81_P.io "stand_together" = [] := rfl
@[simp] theorem Ff_stand_together : k81_P.ff "stand_together" = false := rfl
theorem C_check_way (n k : Nat) (a0 : D) : callP k81_P n (k + 1) "check_way" [a0] = wrapC "check_way" (finC false [] (evSs ⟨callP k81_P n k, k81_P.G, k81_P.io, k81_P.ff⟩ n [] false k81_check_way.body [.sh a0])) :=
  (callP_s rfl).trans (congrArg (wrapC "check_way") (bodyC_eq rfl rfl rfl (fun i hi => by cases hi)))
@[simp] theorem Io_check_way : k81_P.io "check_way" = [] := rfl
@[simp] theorem Ff_check_way : k81_P.ff "check_way" = false := rfl
theorem C_points_tuple (n k : Nat) (a0 : D) : callP k81_P n (k + 1) "points_tuple" [a0] = wrapC "points_tuple" (finC false [] (evSs ⟨callP k81_P n k, k81_P.G, k81_P.io, k81_P.ff⟩ n [] false k81_points_tuple.body [.sh a0])) :=
  (callP_s rfl).trans (congrArg (wrapC "points_tuple") (bodyC_eq rfl rfl rfl (fun i hi => by cases hi)))
@[simp] theorem Io_points_tuple : k81_P.io "points_tuple" = [] := rfl
@[simp] theorem Ff_points_tuple : k81_P.ff "points_tuple" = false := rfl
theorem C_spoils (n k : Nat) (a0 a1 a2 a3 : D) : callP k81_P n (k + 1) "spoils" [a0, a1, a2, a3] = wrapC "spoils" (finC false [] (evSs ⟨callP k81_P n k, k81_P.G, k81_P.io, k81_P.ff⟩ n [] false k81_spoils.body [.sh a0, .sh a1, .sh a2, .sh a3, .un, .un, .un, .un])) :=
  (callP_s rfl).trans (congrArg (wrapC "spoils") (bodyC_eq rfl rfl rfl (fun i hi => by cases hi)))
@[simp] theorem Io_spoils : k81_P.io "spoils" = [] := rfl
@[simp] theorem Ff_spoils : k81_P.ff "spoils" = false := rfl
theorem C_check_many (n k : Nat) (a0 a1 : D) : callP k81_P n (k + 1) "check_many" [a0, a1] = wrapC "check_many" (finC false [] (evSs ⟨callP k81_P n k, k81_P.G, k81_P.io, k81_P.ff⟩ n [] false k81_check_many.body [.sh a0, .sh a1])) :=
  (callP_s rfl).trans (congrArg (wrapC "check_many") (bodyC_eq rfl rfl rfl (fun i hi => by cases hi)))
@[simp] theorem Io_check_many : k81_P.io "check_many" = [] := rfl
@[simp] theorem Ff_check_many : k81_P.ff "check_many" = false := rfl
theorem C_partings (n k : Nat) (a0 : D) : callP k81_P n (k + 1) "partings" [a0] = wrapC "partings" (finC false [] (evSs ⟨callP k81_P n k, k81_P.G, k81_P.io, k81_P.ff⟩ n [] false k81_partings.body [.sh a0, .un, .un, .un, .un])) :=
  (callP_s rfl).trans (congrArg (wrapC "partings") (bodyC_eq rfl rfl rfl (fun i hi => by cases hi)))
@[simp] theorem Io_partings : k81_P.io "partings" = [] := rfl
@[simp] theorem Ff_partings : k81_P.ff "partings" = false := rfl
theorem C_class_counts (n k : Nat) (a0 a1 : D) : callP k81_P n (k + 1) "class_counts" [a0, a1] = wrapC "class_counts" (finC false [] (evSs ⟨callP k81_P n k, k81_P.G, k81_P.io, k81_P.ff⟩ n [] false k81_class_counts.body [.sh a0, .sh a1, .un, .un, .un])) :=
  (callP_s rfl).trans (congrArg (wrapC "class_counts") (bodyC_eq rfl rfl rfl (fun i hi => by cases hi)))
@[simp] theorem Io_class_counts : k81_P.io "class_counts" = [] := rfl
@[simp] theorem Ff_class_counts : k81_P.ff "class_counts" = false := rfl
theorem C_falling (n k : Nat) (a0 a1 : D) : callP k81_P n (k + 1) "falling" [a0, a1] = wrapC "falling" (finC false [] (evSs ⟨callP k81_P n k, k81_P.G, k81_P.io, k81_P.ff⟩ n [] false k81_falling.body [.sh a0, .sh a1, .un, .un])) :=
  (callP_s rfl).trans (congrArg (wrapC "falling") (bodyC_eq rfl rfl rfl (fun i hi => by cases hi)))
@[simp] theorem Io_falling : k81_P.io "falling" = [] := rfl
@[simp] theorem Ff_falling : k81_P.ff "falling" = false := rfl
theorem C_count (n k : Nat) (a0 a1 a2 : D) : callP k81_P n (k + 1) "count" [a0, a1, a2] = wrapC "count" (finC false [] (evSs ⟨callP k81_P n k, k81_P.G, k81_P.io, k81_P.ff⟩ n [] false k81_count.body [.sh a0, .sh a1, .sh a2, .un, .un])) :=
  (callP_s rfl).trans (congrArg (wrapC "count") (bodyC_eq rfl rfl rfl (fun i hi => by cases hi)))
@[simp] theorem Io_count : k81_P.io "count" = [] := rfl
@[simp] theorem Ff_count : k81_P.ff "count" = false := rfl
theorem C_fewest (n k : Nat) (a0 a1 : D) : callP k81_P n (k + 1) "fewest" [a0, a1] = wrapC "fewest" (finC false [] (evSs ⟨callP k81_P n k, k81_P.G, k81_P.io, k81_P.ff⟩ n [] false k81_fewest.body [.sh a0, .sh a1, .un, .un])) :=
  (callP_s rfl).trans (congrArg (wrapC "fewest") (bodyC_eq rfl rfl rfl (fun i hi => by cases hi)))
@[simp] theorem Io_fewest : k81_P.io "fewest" = [] := rfl
@[simp] theorem Ff_fewest : k81_P.ff "fewest" = false := rfl
theorem C_greatest_alone (n k : Nat) (a0 : D) : callP k81_P n (k + 1) "greatest_alone" [a0] = wrapC "greatest_alone" (finC false [] (evSs ⟨callP k81_P n k, k81_P.G, k81_P.io, k81_P.ff⟩ n [] false k81_greatest_alone.body [.sh a0, .un, .un, .un, .un, .un, .un])) :=
  (callP_s rfl).trans (congrArg (wrapC "greatest_alone") (bodyC_eq rfl rfl rfl (fun i hi => by cases hi)))
@[simp] theorem Io_greatest_alone : k81_P.io "greatest_alone" = [] := rfl
@[simp] theorem Ff_greatest_alone : k81_P.ff "greatest_alone" = false := rfl
theorem C_greatest_lot (n k : Nat) (a0 : D) : callP k81_P n (k + 1) "greatest_lot" [a0] = wrapC "greatest_lot" (finC false [] (evSs ⟨callP k81_P n k, k81_P.G, k81_P.io, k81_P.ff⟩ n [] false k81_greatest_lot.body [.sh a0, .un, .un, .un, .un, .un])) :=
  (callP_s rfl).trans (congrArg (wrapC "greatest_lot") (bodyC_eq rfl rfl rfl (fun i hi => by cases hi)))
@[simp] theorem Io_greatest_lot : k81_P.io "greatest_lot" = [] := rfl
@[simp] theorem Ff_greatest_lot : k81_P.ff "greatest_lot" = false := rfl
theorem C_kernel_counts (n k : Nat) (a0 : D) : callP k81_P n (k + 1) "kernel_counts" [a0] = wrapC "kernel_counts" (finC false [] (evSs ⟨callP k81_P n k, k81_P.G, k81_P.io, k81_P.ff⟩ n [] false k81_kernel_counts.body [.sh a0, .un, .un, .un, .un, .un, .un])) :=
  (callP_s rfl).trans (congrArg (wrapC "kernel_counts") (bodyC_eq rfl rfl rfl (fun i hi => by cases hi)))
@[simp] theorem Io_kernel_counts : k81_P.io "kernel_counts" = [] := rfl
@[simp] theorem Ff_kernel_counts : k81_P.ff "kernel_counts" = false := rfl
theorem C__law_draw (n k : Nat) (a0 : D) : callP k81_P n (k + 1) "_law_draw" [a0] = wrapC "_law_draw" (finC true [] (evSs ⟨callP k81_P n k, k81_P.G, k81_P.io, k81_P.ff⟩ n [] true k81_law_draw.body [.sh a0, .un, .un])) :=
  (callP_s rfl).trans (congrArg (wrapC "_law_draw") (bodyC_eq rfl rfl rfl (fun i hi => by cases hi)))
@[simp] theorem Io__law_draw : k81_P.io "_law_draw" = [] := rfl
@[simp] theorem Ff__law_draw : k81_P.ff "_law_draw" = true := rfl
theorem C__law_take (n k : Nat) (a0 a1 : D) (h0 : isLst a0 = true) : callP k81_P n (k + 1) "_law_take" [a0, a1] = wrapC "_law_take" (finC false [0] (evSs ⟨callP k81_P n k, k81_P.G, k81_P.io, k81_P.ff⟩ n [0] false k81_law_take.body [.ow a0, .sh a1, .un])) :=
  (callP_s rfl).trans (congrArg (wrapC "_law_take") (bodyC_eq rfl rfl rfl (fun i hi => by
    simp only [show (k81_law_take).io = [0] from rfl, List.mem_cons, List.not_mem_nil, or_false] at hi
    subst hi
    · exact congrArg some h0)))
@[simp] theorem Io__law_take : k81_P.io "_law_take" = [0] := rfl
@[simp] theorem Ff__law_take : k81_P.ff "_law_take" = false := rfl
theorem C__law_order (n k : Nat) (a0 a1 : D) (h0 : isLst a0 = true) : callP k81_P n (k + 1) "_law_order" [a0, a1] = wrapC "_law_order" (finC false [0] (evSs ⟨callP k81_P n k, k81_P.G, k81_P.io, k81_P.ff⟩ n [0] false k81_law_order.body [.ow a0, .sh a1, .un, .un])) :=
  (callP_s rfl).trans (congrArg (wrapC "_law_order") (bodyC_eq rfl rfl rfl (fun i hi => by
    simp only [show (k81_law_order).io = [0] from rfl, List.mem_cons, List.not_mem_nil, or_false] at hi
    subst hi
    · exact congrArg some h0)))
@[simp] theorem Io__law_order : k81_P.io "_law_order" = [0] := rfl
@[simp] theorem Ff__law_order : k81_P.ff "_law_order" = false := rfl
theorem C__law_in (n k : Nat) (a0 : D) : callP k81_P n (k + 1) "_law_in" [a0] = wrapC "_law_in" (finC false [] (evSs ⟨callP k81_P n k, k81_P.G, k81_P.io, k81_P.ff⟩ n [] false k81_law_in.body [.sh a0, .un])) :=
  (callP_s rfl).trans (congrArg (wrapC "_law_in") (bodyC_eq rfl rfl rfl (fun i hi => by cases hi)))
@[simp] theorem Io__law_in : k81_P.io "_law_in" = [] := rfl
@[simp] theorem Ff__law_in : k81_P.ff "_law_in" = false := rfl
theorem C__law_items (n k : Nat) (a0 a1 a2 a3 : D) (h0 : isLst a0 = true) (h3 : isLst a3 = true) : callP k81_P n (k + 1) "_law_items" [a0, a1, a2, a3] = wrapC "_law_items" (finC false [0, 3] (evSs ⟨callP k81_P n k, k81_P.G, k81_P.io, k81_P.ff⟩ n [0, 3] false k81_law_items.body [.ow a0, .sh a1, .sh a2, .ow a3, .un, .un, .un, .un, .un, .un])) :=
  (callP_s rfl).trans (congrArg (wrapC "_law_items") (bodyC_eq rfl rfl rfl (fun i hi => by
    simp only [show (k81_law_items).io = [0, 3] from rfl, List.mem_cons, List.not_mem_nil, or_false] at hi
    rcases hi with rfl | rfl
    · exact congrArg some h0
    · exact congrArg some h3)))
@[simp] theorem Io__law_items : k81_P.io "_law_items" = [0, 3] := rfl
@[simp] theorem Ff__law_items : k81_P.ff "_law_items" = false := rfl
theorem C__law_family (n k : Nat) (a0 a1 : D) (h0 : isLst a0 = true) : callP k81_P n (k + 1) "_law_family" [a0, a1] = wrapC "_law_family" (finC false [0] (evSs ⟨callP k81_P n k, k81_P.G, k81_P.io, k81_P.ff⟩ n [0] false k81_law_family.body [.ow a0, .sh a1, .un, .un, .un, .un, .un, .un, .un, .un, .un])) :=
  (callP_s rfl).trans (congrArg (wrapC "_law_family") (bodyC_eq rfl rfl rfl (fun i hi => by
    simp only [show (k81_law_family).io = [0] from rfl, List.mem_cons, List.not_mem_nil, or_false] at hi
    subst hi
    · exact congrArg some h0)))
@[simp] theorem Io__law_family : k81_P.io "_law_family" = [0] := rfl
@[simp] theorem Ff__law_family : k81_P.ff "_law_family" = false := rfl
theorem C__law_every (n k : Nat) (a0 : D) : callP k81_P n (k + 1) "_law_every" [a0] = wrapC "_law_every" (finC false [] (evSs ⟨callP k81_P n k, k81_P.G, k81_P.io, k81_P.ff⟩ n [] false k81_law_every.body [.sh a0, .un, .un])) :=
  (callP_s rfl).trans (congrArg (wrapC "_law_every") (bodyC_eq rfl rfl rfl (fun i hi => by cases hi)))
@[simp] theorem Io__law_every : k81_P.io "_law_every" = [] := rfl
@[simp] theorem Ff__law_every : k81_P.ff "_law_every" = false := rfl
theorem C__law_near (n k : Nat) (a0 a1 a2 : D) : callP k81_P n (k + 1) "_law_near" [a0, a1, a2] = wrapC "_law_near" (finC false [] (evSs ⟨callP k81_P n k, k81_P.G, k81_P.io, k81_P.ff⟩ n [] false k81_law_near.body [.sh a0, .sh a1, .sh a2, .un])) :=
  (callP_s rfl).trans (congrArg (wrapC "_law_near") (bodyC_eq rfl rfl rfl (fun i hi => by cases hi)))
@[simp] theorem Io__law_near : k81_P.io "_law_near" = [] := rfl
@[simp] theorem Ff__law_near : k81_P.ff "_law_near" = false := rfl
theorem C__law_odd (n k : Nat) (a0 : D) (h0 : isLst a0 = true) : callP k81_P n (k + 1) "_law_odd" [a0] = wrapC "_law_odd" (finC false [0] (evSs ⟨callP k81_P n k, k81_P.G, k81_P.io, k81_P.ff⟩ n [0] false k81_law_odd.body [.ow a0])) :=
  (callP_s rfl).trans (congrArg (wrapC "_law_odd") (bodyC_eq rfl rfl rfl (fun i hi => by
    simp only [show (k81_law_odd).io = [0] from rfl, List.mem_cons, List.not_mem_nil, or_false] at hi
    subst hi
    · exact congrArg some h0)))
@[simp] theorem Io__law_odd : k81_P.io "_law_odd" = [0] := rfl
@[simp] theorem Ff__law_odd : k81_P.ff "_law_odd" = false := rfl
theorem C__law_sets (n k : Nat) (a0 : D) : callP k81_P n (k + 1) "_law_sets" [a0] = wrapC "_law_sets" (finC false [] (evSs ⟨callP k81_P n k, k81_P.G, k81_P.io, k81_P.ff⟩ n [] false k81_law_sets.body [.sh a0, .un, .un, .un])) :=
  (callP_s rfl).trans (congrArg (wrapC "_law_sets") (bodyC_eq rfl rfl rfl (fun i hi => by cases hi)))
@[simp] theorem Io__law_sets : k81_P.io "_law_sets" = [] := rfl
@[simp] theorem Ff__law_sets : k81_P.ff "_law_sets" = false := rfl
theorem C__law_together (n k : Nat) (a0 a1 : D) : callP k81_P n (k + 1) "_law_together" [a0, a1] = wrapC "_law_together" (finC false [] (evSs ⟨callP k81_P n k, k81_P.G, k81_P.io, k81_P.ff⟩ n [] false k81_law_together.body [.sh a0, .sh a1, .un, .un])) :=
  (callP_s rfl).trans (congrArg (wrapC "_law_together") (bodyC_eq rfl rfl rfl (fun i hi => by cases hi)))
@[simp] theorem Io__law_together : k81_P.io "_law_together" = [] := rfl
@[simp] theorem Ff__law_together : k81_P.ff "_law_together" = false := rfl
theorem C__law_alone (n k : Nat) (a0 a1 : D) : callP k81_P n (k + 1) "_law_alone" [a0, a1] = wrapC "_law_alone" (finC false [] (evSs ⟨callP k81_P n k, k81_P.G, k81_P.io, k81_P.ff⟩ n [] false k81_law_alone.body [.sh a0, .sh a1, .un, .un])) :=
  (callP_s rfl).trans (congrArg (wrapC "_law_alone") (bodyC_eq rfl rfl rfl (fun i hi => by cases hi)))
@[simp] theorem Io__law_alone : k81_P.io "_law_alone" = [] := rfl
@[simp] theorem Ff__law_alone : k81_P.ff "_law_alone" = false := rfl
theorem C__law_falls (n k : Nat) (a0 a1 : D) : callP k81_P n (k + 1) "_law_falls" [a0, a1] = wrapC "_law_falls" (finC false [] (evSs ⟨callP k81_P n k, k81_P.G, k81_P.io, k81_P.ff⟩ n [] false k81_law_falls.body [.sh a0, .sh a1])) :=
  (callP_s rfl).trans (congrArg (wrapC "_law_falls") (bodyC_eq rfl rfl rfl (fun i hi => by cases hi)))
@[simp] theorem Io__law_falls : k81_P.io "_law_falls" = [] := rfl
@[simp] theorem Ff__law_falls : k81_P.ff "_law_falls" = false := rfl
theorem C__law_best (n k : Nat) (a0 a1 : D) : callP k81_P n (k + 1) "_law_best" [a0, a1] = wrapC "_law_best" (finC false [] (evSs ⟨callP k81_P n k, k81_P.G, k81_P.io, k81_P.ff⟩ n [] false k81_law_best.body [.sh a0, .sh a1, .un, .un])) :=
  (callP_s rfl).trans (congrArg (wrapC "_law_best") (bodyC_eq rfl rfl rfl (fun i hi => by cases hi)))
@[simp] theorem Io__law_best : k81_P.io "_law_best" = [] := rfl
@[simp] theorem Ff__law_best : k81_P.ff "_law_best" = false := rfl
theorem C_law (n k : Nat) (a0 : D) : callP k81_P n (k + 1) "law" [a0] = wrapC "law" (finC false [] (evSs ⟨callP k81_P n k, k81_P.G, k81_P.io, k81_P.ff⟩ n [] false k81_law.body [.sh a0, .un, .un, .un, .un, .un, .un, .un, .un, .un, .un, .un, .un, .un, .un, .un])) :=
  (callP_s rfl).trans (congrArg (wrapC "law") (bodyC_eq rfl rfl rfl (fun i hi => by cases hi)))
@[simp] theorem Io_law : k81_P.io "law" = [] := rfl
@[simp] theorem Ff_law : k81_P.ff "law" = false := rfl
@[simp] theorem Glo_MOST_POINTS : k81_P.G "MOST_POINTS" = some (.int 6) := rfl
@[simp] theorem Glo_MOST_SETS : k81_P.G "MOST_SETS" = some (.int 8) := rfl
@[simp] theorem Glo_WAYS : k81_P.G "WAYS" = some (.tuple [(.str (Str.ofString "some")), (.str (Str.ofString "all"))]) := rfl
@[simp] theorem Glo_MOST_COLOURS : k81_P.G "MOST_COLOURS" = some (.int 20) := rfl

end S81

end
section
set_option linter.all false
set_option autoImplicit false
set_option maxRecDepth 100000
set_option Elab.async false
namespace S81
open PySem JK JK.JKS
variable {n : Nat}
@[simp] theorem has_sp (k x i : Nat) : callP k81_P n (k+1) "has" [.int x, .int i] = .ok (.bool (x.testBit i)) [] := by
  simp (maxDischargeDepth := 9) [zipIdx_map', eraseIdx_map', tail_map', drop_map', take_map', -List.map_tail, -List.map_drop, -List.map_take, -getElem?_pos, -getElem?_neg, -Int.natCast_shiftRight, -Nat.and_one_is_mod, -Int.natCast_pow, -Nat.one_and_eq_mod_two, C_has, k81_has]
@[simp] theorem points_in_sp (k x : Nat) : callP k81_P n (k+2) "points_in" [.int x] = .ok (.list (List.map (fun x : Nat => PyData.int (x : Int)) (pin x))) [] := by
  simp (maxDischargeDepth := 9) [zipIdx_map', eraseIdx_map', tail_map', drop_map', take_map', -List.map_tail, -List.map_drop, -List.map_take, -getElem?_pos, -getElem?_neg, -Int.natCast_shiftRight, -Nat.and_one_is_mod, -Int.natCast_pow, -Nat.one_and_eq_mod_two, C_points_in, k81_points_in, pin]
@[simp] theorem size_of_sp (k x : Nat) : callP k81_P n (k+3) "size_of" [.int x] = .ok (.int (size x)) [] := by
  simp (maxDischargeDepth := 9) [zipIdx_map', eraseIdx_map', tail_map', drop_map', take_map', -List.map_tail, -List.map_drop, -List.map_take, -getElem?_pos, -getElem?_neg, -Int.natCast_shiftRight, -Nat.and_one_is_mod, -Int.natCast_pow, -Nat.one_and_eq_mod_two, C_size_of, k81_size_of, size]
@[simp] theorem is_within_sp (k x y : Nat) : callP k81_P n (k+1) "is_within" [.int x, .int y] = .ok (.bool (x &&& y == x)) [] := by
  simp (maxDischargeDepth := 9) [zipIdx_map', eraseIdx_map', tail_map', drop_map', take_map', -List.map_tail, -List.map_drop, -List.map_take, -getElem?_pos, -getElem?_neg, -Int.natCast_shiftRight, -Nat.and_one_is_mod, -Int.natCast_pow, -Nat.one_and_eq_mod_two, C_is_within, k81_is_within]
@[simp] theorem is_whole_i (k : Nat) (x : Int) : callP k81_P n (k+1) "is_whole" [.int x] = .ok (.bool true) [] := by
  simp (maxDischargeDepth := 9) [zipIdx_map', eraseIdx_map', tail_map', drop_map', take_map', -List.map_tail, -List.map_drop, -List.map_take, -getElem?_pos, -getElem?_neg, -Int.natCast_shiftRight, -Nat.and_one_is_mod, -Int.natCast_pow, -Nat.one_and_eq_mod_two, C_is_whole, k81_is_whole]
@[simp] theorem is_whole_b (k : Nat) (x : Bool) : callP k81_P n (k+1) "is_whole" [.bool x] = .ok (.bool false) [] := by
  simp (maxDischargeDepth := 9) [zipIdx_map', eraseIdx_map', tail_map', drop_map', take_map', -List.map_tail, -List.map_drop, -List.map_take, -getElem?_pos, -getElem?_neg, -Int.natCast_shiftRight, -Nat.and_one_is_mod, -Int.natCast_pow, -Nat.one_and_eq_mod_two, C_is_whole, k81_is_whole]
@[simp] theorem is_whole_n (k : Nat) : callP k81_P n (k+1) "is_whole" [.none] = .ok (.bool false) [] := by
  simp (maxDischargeDepth := 9) [zipIdx_map', eraseIdx_map', tail_map', drop_map', take_map', -List.map_tail, -List.map_drop, -List.map_take, -getElem?_pos, -getElem?_neg, -Int.natCast_shiftRight, -Nat.and_one_is_mod, -Int.natCast_pow, -Nat.one_and_eq_mod_two, C_is_whole, k81_is_whole]
@[simp] theorem is_whole_s (k : Nat) (x : Str) : callP k81_P n (k+1) "is_whole" [.str x] = .ok (.bool false) [] := by
  simp (maxDischargeDepth := 9) [zipIdx_map', eraseIdx_map', tail_map', drop_map', take_map', -List.map_tail, -List.map_drop, -List.map_take, -getElem?_pos, -getElem?_neg, -Int.natCast_shiftRight, -Nat.and_one_is_mod, -Int.natCast_pow, -Nat.one_and_eq_mod_two, C_is_whole, k81_is_whole]
@[simp] theorem is_whole_t (k : Nat) (x : List D) : callP k81_P n (k+1) "is_whole" [.tuple x] = .ok (.bool false) [] := by
  simp (maxDischargeDepth := 9) [zipIdx_map', eraseIdx_map', tail_map', drop_map', take_map', -List.map_tail, -List.map_drop, -List.map_take, -getElem?_pos, -getElem?_neg, -Int.natCast_shiftRight, -Nat.and_one_is_mod, -Int.natCast_pow, -Nat.one_and_eq_mod_two, C_is_whole, k81_is_whole]
@[simp] theorem is_whole_l (k : Nat) (x : List D) : callP k81_P n (k+1) "is_whole" [.list x] = .ok (.bool false) [] := by
  simp (maxDischargeDepth := 9) [zipIdx_map', eraseIdx_map', tail_map', drop_map', take_map', -List.map_tail, -List.map_drop, -List.map_take, -getElem?_pos, -getElem?_neg, -Int.natCast_shiftRight, -Nat.and_one_is_mod, -Int.natCast_pow, -Nat.one_and_eq_mod_two, C_is_whole, k81_is_whole]
@[simp] theorem is_set_sp (k x : Nat) : callP k81_P n (k+2) "is_set" [.int x] = .ok (.bool (decide (0 < x) && decide (x < 64))) [] := by
  simp (maxDischargeDepth := 9) [zipIdx_map', eraseIdx_map', tail_map', drop_map', take_map', -List.map_tail, -List.map_drop, -List.map_take, -getElem?_pos, -getElem?_neg, -Int.natCast_shiftRight, -Nat.and_one_is_mod, -Int.natCast_pow, -Nat.one_and_eq_mod_two, C_is_set, k81_is_set]
  by_cases h : 0 < x
  · simp [h]
  · simp [h]
@[simp] theorem is_family_sp (k : Nat) (fs : List Nat) : callP k81_P n (k+3) "is_family" [.tuple (List.map (fun x : Nat => PyData.int (x : Int)) fs)] = .ok (.bool (famB fs)) [] := by
  by_cases h1 : 1 ≤ fs.length
  · by_cases h2 : fs.length ≤ 8
    · by_cases h3 : (fs.all fun x => decide (0 < x) && decide (x < 64)) = true
      · simp (maxDischargeDepth := 9) [zipIdx_map', eraseIdx_map', tail_map', drop_map', take_map', -List.map_tail, -List.map_drop, -List.map_take, -getElem?_pos, -getElem?_neg, -Int.natCast_shiftRight, -Nat.and_one_is_mod, -Int.natCast_pow, -Nat.one_and_eq_mod_two, C_is_family, k81_is_family, h1, h2, h3, famB, zip_asc]
      · simp (maxDischargeDepth := 9) [zipIdx_map', eraseIdx_map', tail_map', drop_map', take_map', -List.map_tail, -List.map_drop, -List.map_take, -getElem?_pos, -getElem?_neg, -Int.natCast_shiftRight, -Nat.and_one_is_mod, -Int.natCast_pow, -Nat.one_and_eq_mod_two, C_is_family, k81_is_family, h1, h2, h3, famB]
    · simp (maxDischargeDepth := 9) [zipIdx_map', eraseIdx_map', tail_map', drop_map', take_map', -List.map_tail, -List.map_drop, -List.map_take, -getElem?_pos, -getElem?_neg, -Int.natCast_shiftRight, -Nat.and_one_is_mod, -Int.natCast_pow, -Nat.one_and_eq_mod_two, C_is_family, k81_is_family, h1, h2, famB]
  · simp (maxDischargeDepth := 9) [zipIdx_map', eraseIdx_map', tail_map', drop_map', take_map', -List.map_tail, -List.map_drop, -List.map_take, -getElem?_pos, -getElem?_neg, -Int.natCast_shiftRight, -Nat.and_one_is_mod, -Int.natCast_pow, -Nat.one_and_eq_mod_two, C_is_family, k81_is_family, h1, famB]
@[simp] theorem check_family_sp (k : Nat) (fs : List Nat) (h : Fam fs) : callP k81_P n (k+4) "check_family" [.tuple (List.map (fun x : Nat => PyData.int (x : Int)) fs)] = .ok .none [] := by
  simp (maxDischargeDepth := 9) [zipIdx_map', eraseIdx_map', tail_map', drop_map', take_map', -List.map_tail, -List.map_drop, -List.map_take, -getElem?_pos, -getElem?_neg, -Int.natCast_shiftRight, -Nat.and_one_is_mod, -Int.natCast_pow, -Nat.one_and_eq_mod_two, C_check_family, k81_check_family, h.b]

end S81

end
section
set_option linter.all false
set_option autoImplicit false
set_option maxRecDepth 100000
set_option Elab.async false
namespace S81
open PySem JK JK.JKS
variable {n : Nat}
@[simp] theorem take_sp (k : Nat) (s : Dw) (m : Int) (h0 : 0 < m) (h1 : m < 1073741824) : callP k81_P n (k+1) "_law_take" [s.d, .int m] = .ok (.int (s.v m.toNat)) [(s.t m.toNat).d] := by
  obtain ⟨m, rfl⟩ := Int.eq_ofNat_of_zero_le (Int.le_of_lt h0)
  rw [C__law_take _ _ _ _ (isLst_dw s), show k81_law_take.body = takeB ((48271 : Nat) : Int) ((11 : Nat) : Int) ((2147483647 : Nat) : Int) from rfl, takeG _ _ _ _ _ (by decide) (by decide) s m (by omega) (by omega)]
  rfl
@[simp] theorem in_sp (k x : Nat) : callP k81_P n (k+1) "_law_in" [.int x] = .ok (.list (List.map (fun x : Nat => PyData.int (x : Int)) (pin x))) [] := by
  simp (maxDischargeDepth := 9) [zipIdx_map', eraseIdx_map', tail_map', drop_map', take_map', -List.map_tail, -List.map_drop, -List.map_take, -getElem?_pos, -getElem?_neg, -Int.natCast_shiftRight, -Nat.and_one_is_mod, -Int.natCast_pow, -Nat.one_and_eq_mod_two, C__law_in, k81_law_in, pin]
end S81

end
section
set_option linter.all false
set_option autoImplicit false
set_option maxRecDepth 100000
set_option Elab.async false
namespace S81
open PySem JK JK.JKS
variable {n : Nat}
theorem order_loop (C : Cfg) (hF : ∀ (s : Dw) (m : Int), 0 < m → m < 1073741824 → C.F "_law_take" [s.d, .int m] = .ok (.int (s.v m.toNat)) [(s.t m.toNat).d]) (hio : C.io "_law_take" = [0]) (m : D) (N : Nat) : ∀ (f : Nat) (s : Dw) (left order : List Nat), left.length < f → left.length ≤ 1000 → order.length + left.length ≤ 1000 → ∃ (s' : Dw) (order' : List Nat),
    whlL (evT C (.cmp .ne (.bor 2) (.lst []))) (evSs C N [0] false [.app 3 (.pop 2 [.call "_law_take" [.bor 0, .bi .len [.bor 2]]])]) f [.ow s.d, .sh m, .ow (.list (List.map (fun x : Nat => PyData.int (x : Int)) left)), .ow (.list (List.map (fun x : Nat => PyData.int (x : Int)) order))] =
      .nx [.ow s'.d, .sh m, .ow (.list []), .ow (.list (List.map (fun x : Nat => PyData.int (x : Int)) order'))] ∧ order'.Perm (order ++ left)
  | 0, _, _, _, h, _, _ => absurd h (Nat.not_lt_zero _)
  | f + 1, s, [], order, _, _, _ => ⟨s, order, by simp (maxDischargeDepth := 9) [zipIdx_map', eraseIdx_map', tail_map', drop_map', take_map', -List.map_tail, -List.map_drop, -List.map_take, -getElem?_pos, -getElem?_neg, -Int.natCast_shiftRight, -Nat.and_one_is_mod, -Int.natCast_pow, -Nat.one_and_eq_mod_two, whlL], by simp⟩
  | f + 1, s, x :: xs, order, h, h', h'' => by
    have hl : (x :: xs).length < 1073741824 := by omega
    have hv : s.v (x :: xs).length < (x :: xs).length := s.v_lt (by simp)
    obtain ⟨s', o', e, p⟩ := order_loop C hF hio m N f (s.t (x :: xs).length) ((x :: xs).eraseIdx (s.v (x :: xs).length)) (order ++ [(x :: xs)[s.v (x :: xs).length]]) (by rw [List.length_eraseIdx_of_lt hv]; simp at h ⊢; omega) (by rw [List.length_eraseIdx_of_lt hv]; simp at h' ⊢; omega) (by rw [List.length_eraseIdx_of_lt hv]; simp at h'' ⊢; omega)
    refine ⟨s', o', ?_, ?_⟩
    · rw [whlL]
      generalize hxs : x :: xs = ys at *
      have h1 : ys ≠ [] := by rw [← hxs]; simp
      have h2 : order.length < 1000000 := by omega
      have h3 : 0 < ys.length := by rw [← hxs]; simp
      have h4 : ys.length < 1073741824 := hl
      have h5 : s.v ys.length < ys.length := hv
      simp (maxDischargeDepth := 9) [zipIdx_map', eraseIdx_map', tail_map', drop_map', take_map', -List.map_tail, -List.map_drop, -List.map_take, -getElem?_pos, -getElem?_neg, -Int.natCast_shiftRight, -Nat.and_one_is_mod, -Int.natCast_pow, -Nat.one_and_eq_mod_two, hF, hio, h1, h2, h3, h4, h5, onlyIo]
      rw [List.map_append] at e
      exact e
    · refine p.trans ?_
      rw [List.append_assoc]
      exact List.Perm.append_left _ (perm_eraseIdx _ _ hv)
theorem order_sp (k : Nat) (s : Dw) (m : Nat) (hm : m ≤ 64) (hn : 100 ≤ n) : ∃ (l : List Nat) (t : Dw), callP k81_P n (k+2) "_law_order" [s.d, .int m] = .ok (.list (List.map (fun x : Nat => PyData.int (x : Int)) l)) [t.d] ∧ l.Perm (List.range m) := by
  obtain ⟨t, l, e, p⟩ := order_loop ⟨callP k81_P n (k+1), k81_P.G, k81_P.io, k81_P.ff⟩ (fun s m => take_sp k s m) rfl (.int m) n n s (List.range m) [] (by simp; omega) (by simp; omega) (by simp; omega)
  refine ⟨l, t, ?_, by simpa using p⟩
  have hm' : (m : Int) ≤ 1000000 := by omega
  simp only [List.map_nil] at e
  simp (maxDischargeDepth := 9) [zipIdx_map', eraseIdx_map', tail_map', drop_map', take_map', -List.map_tail, -List.map_drop, -List.map_take, -getElem?_pos, -getElem?_neg, -Int.natCast_shiftRight, -Nat.and_one_is_mod, -Int.natCast_pow, -Nat.one_and_eq_mod_two, C__law_order, k81_law_order, freshE, hm']
  simp (maxDischargeDepth := 9) [zipIdx_map', eraseIdx_map', tail_map', drop_map', take_map', -List.map_tail, -List.map_drop, -List.map_take, -getElem?_pos, -getElem?_neg, -Int.natCast_shiftRight, -Nat.and_one_is_mod, -Int.natCast_pow, -Nat.one_and_eq_mod_two, e]

end S81

end
section
set_option linter.all false
set_option autoImplicit false
set_option maxRecDepth 100000
set_option Elab.async false
namespace S81
open PySem JK JK.JKS
variable {n : Nat}
theorem items_sp2 (k : Nat) (s : Dw) (m : Nat) (f : List Nat) (h1 : 1 ≤ m) (h6 : m ≤ 6) (hf : ∀ x ∈ f, x < 64) (hl : f.length ≤ 8) : ∃ (r : Nat) (t : Dw), callP k81_P n (k+2) "_law_items" [s.d, .int 2, .int m, .list (List.map (fun x : Nat => PyData.int (x : Int)) f)] = .ok (.int r) [t.d, .list (List.map (fun x : Nat => PyData.int (x : Int)) f)] ∧ r < 64 := by
  have a1 : m ≤ 1000000 := by omega
  have a2 : 0 < m := by omega
  have a3 : m < 1073741824 := by omega
  have a4 : ∀ s : Dw, s.v m ≤ 1000000 := fun s => Nat.le_trans (Nat.le_of_lt (s.v_lt a2)) a1
  have a5 : ∀ s : Dw, 2 ^ s.v m < 64 := fun s => Nat.pow_lt_pow_right (by omega) (Nat.lt_of_lt_of_le (s.v_lt a2) h6)
  obtain ⟨M, hM⟩ : ∃ M, 2 ^ m = M + 1 := ⟨2 ^ m - 1, by have := Nat.two_pow_pos m; omega⟩
  have hM1 : 0 < M := by have : 2 ^ 1 ≤ 2 ^ m := Nat.pow_le_pow_right (by omega) h1; omega
  have hM2 : M < 64 := by have : 2 ^ m ≤ 2 ^ 6 := Nat.pow_le_pow_right (by omega) h6; omega
  have hM3 : M < 1073741824 := by omega
  have hM4 : ∀ s : Dw, 1 + s.v M < 64 := fun s => by have := s.v_lt hM1; omega
  simp (maxDischargeDepth := 9) [zipIdx_map', eraseIdx_map', tail_map', drop_map', take_map', -List.map_tail, -List.map_drop, -List.map_take, -getElem?_pos, -getElem?_neg, -Int.natCast_shiftRight, -Nat.and_one_is_mod, -Int.natCast_pow, -Nat.one_and_eq_mod_two, C__law_items, k81_law_items, onlyIo, a1, a2, a3, a4, hM, hM1, hM3]
  exact ⟨_, ⟨rfl, _, rfl⟩, Nat.or_lt_two_pow (n := 6) (a5 _) (a5 _)⟩
theorem items_sp3 (k : Nat) (s : Dw) (m : Nat) (f : List Nat) (h1 : 1 ≤ m) (h6 : m ≤ 6) (hf : ∀ x ∈ f, x < 64) (hl : f.length ≤ 8) : ∃ (r : Nat) (t : Dw), callP k81_P n (k+2) "_law_items" [s.d, .int 3, .int m, .list (List.map (fun x : Nat => PyData.int (x : Int)) f)] = .ok (.int r) [t.d, .list (List.map (fun x : Nat => PyData.int (x : Int)) f)] ∧ r < 64 := by
  have a1 : m ≤ 1000000 := by omega
  have a2 : 0 < m := by omega
  have a3 : m < 1073741824 := by omega
  have a4 : ∀ s : Dw, s.v m ≤ 1000000 := fun s => Nat.le_trans (Nat.le_of_lt (s.v_lt a2)) a1
  have a5 : ∀ s : Dw, 2 ^ s.v m < 64 := fun s => Nat.pow_lt_pow_right (by omega) (Nat.lt_of_lt_of_le (s.v_lt a2) h6)
  obtain ⟨M, hM⟩ : ∃ M, 2 ^ m = M + 1 := ⟨2 ^ m - 1, by have := Nat.two_pow_pos m; omega⟩
  have hM1 : 0 < M := by have : 2 ^ 1 ≤ 2 ^ m := Nat.pow_le_pow_right (by omega) h1; omega
  have hM2 : M < 64 := by have : 2 ^ m ≤ 2 ^ 6 := Nat.pow_le_pow_right (by omega) h6; omega
  have hM3 : M < 1073741824 := by omega
  have hM4 : ∀ s : Dw, 1 + s.v M < 64 := fun s => by have := s.v_lt hM1; omega
  simp (maxDischargeDepth := 9) [zipIdx_map', eraseIdx_map', tail_map', drop_map', take_map', -List.map_tail, -List.map_drop, -List.map_take, -getElem?_pos, -getElem?_neg, -Int.natCast_shiftRight, -Nat.and_one_is_mod, -Int.natCast_pow, -Nat.one_and_eq_mod_two, C__law_items, k81_law_items, onlyIo, a1, a2, a3, a4, hM, hM1, hM3]
  exact ⟨_, ⟨rfl, _, rfl⟩, Nat.or_lt_two_pow (n := 6) (Nat.or_lt_two_pow (n := 6) (a5 _) (a5 _)) (a5 _)⟩
theorem items_sp5 (k : Nat) (s : Dw) (m : Nat) (f : List Nat) (h1 : 1 ≤ m) (h6 : m ≤ 6) (hf : ∀ x ∈ f, x < 64) (hl : f.length ≤ 8) : ∃ (r : Nat) (t : Dw), callP k81_P n (k+2) "_law_items" [s.d, .int 5, .int m, .list (List.map (fun x : Nat => PyData.int (x : Int)) f)] = .ok (.int r) [t.d, .list (List.map (fun x : Nat => PyData.int (x : Int)) f)] ∧ r < 64 := by
  have a1 : m ≤ 1000000 := by omega
  have a2 : 0 < m := by omega
  have a3 : m < 1073741824 := by omega
  have a4 : ∀ s : Dw, s.v m ≤ 1000000 := fun s => Nat.le_trans (Nat.le_of_lt (s.v_lt a2)) a1
  have a5 : ∀ s : Dw, 2 ^ s.v m < 64 := fun s => Nat.pow_lt_pow_right (by omega) (Nat.lt_of_lt_of_le (s.v_lt a2) h6)
  obtain ⟨M, hM⟩ : ∃ M, 2 ^ m = M + 1 := ⟨2 ^ m - 1, by have := Nat.two_pow_pos m; omega⟩
  have hM1 : 0 < M := by have : 2 ^ 1 ≤ 2 ^ m := Nat.pow_le_pow_right (by omega) h1; omega
  have hM2 : M < 64 := by have : 2 ^ m ≤ 2 ^ 6 := Nat.pow_le_pow_right (by omega) h6; omega
  have hM3 : M < 1073741824 := by omega
  have hM4 : ∀ s : Dw, 1 + s.v M < 64 := fun s => by have := s.v_lt hM1; omega
  simp (maxDischargeDepth := 9) [zipIdx_map', eraseIdx_map', tail_map', drop_map', take_map', -List.map_tail, -List.map_drop, -List.map_take, -getElem?_pos, -getElem?_neg, -Int.natCast_shiftRight, -Nat.and_one_is_mod, -Int.natCast_pow, -Nat.one_and_eq_mod_two, C__law_items, k81_law_items, onlyIo, a1, a2, a3, a4, hM, hM1, hM3]
  exact ⟨_, ⟨rfl, _, rfl⟩, Nat.or_lt_two_pow (n := 6) (hM4 _) (by decide)⟩
theorem items_sp4 (k : Nat) (s : Dw) (m : Nat) (f : List Nat) (h1 : 1 ≤ m) (h6 : m ≤ 6) (hf : ∀ x ∈ f, x < 64) (hl : f.length ≤ 8) : ∃ (r : Nat) (t : Dw), callP k81_P n (k+2) "_law_items" [s.d, .int 4, .int m, .list (List.map (fun x : Nat => PyData.int (x : Int)) f)] = .ok (.int r) [t.d, .list (List.map (fun x : Nat => PyData.int (x : Int)) f)] ∧ r < 64 := by
  have a1 : m ≤ 1000000 := by omega
  have a2 : 0 < m := by omega
  have a3 : m < 1073741824 := by omega
  have a4 : ∀ s : Dw, s.v m ≤ 1000000 := fun s => Nat.le_trans (Nat.le_of_lt (s.v_lt a2)) a1
  have a5 : ∀ s : Dw, 2 ^ s.v m < 64 := fun s => Nat.pow_lt_pow_right (by omega) (Nat.lt_of_lt_of_le (s.v_lt a2) h6)
  obtain ⟨M, hM⟩ : ∃ M, 2 ^ m = M + 1 := ⟨2 ^ m - 1, by have := Nat.two_pow_pos m; omega⟩
  have hM1 : 0 < M := by have : 2 ^ 1 ≤ 2 ^ m := Nat.pow_le_pow_right (by omega) h1; omega
  have hM2 : M < 64 := by have : 2 ^ m ≤ 2 ^ 6 := Nat.pow_le_pow_right (by omega) h6; omega
  have hM3 : M < 1073741824 := by omega
  have hM4 : ∀ s : Dw, 1 + s.v M < 64 := fun s => by have := s.v_lt hM1; omega
  by_cases hn : f = []
  · subst hn
    simp (maxDischargeDepth := 9) [zipIdx_map', eraseIdx_map', tail_map', drop_map', take_map', -List.map_tail, -List.map_drop, -List.map_take, -getElem?_pos, -getElem?_neg, -Int.natCast_shiftRight, -Nat.and_one_is_mod, -Int.natCast_pow, -Nat.one_and_eq_mod_two, C__law_items, k81_law_items, onlyIo, a1, a2, a3, a4, hM, hM1, hM3]
    exact ⟨_, ⟨rfl, _, rfl⟩, hM2⟩
  · have c1 : 0 < f.length := List.length_pos_iff.mpr hn
    have c2 : f.length < 1073741824 := by omega
    have c3 : ∀ s : Dw, s.v f.length < f.length := fun s => s.v_lt c1
    simp (maxDischargeDepth := 9) [zipIdx_map', eraseIdx_map', tail_map', drop_map', take_map', -List.map_tail, -List.map_drop, -List.map_take, -getElem?_pos, -getElem?_neg, -Int.natCast_shiftRight, -Nat.and_one_is_mod, -Int.natCast_pow, -Nat.one_and_eq_mod_two, C__law_items, k81_law_items, onlyIo, a1, a2, a3, a4, hM, hM1, hM3, c1, c2, c3, hn]
    exact ⟨_, ⟨rfl, _, rfl⟩, Nat.and_lt_two_pow (n := 6) _ (hf _ (List.getElem_mem _))⟩
theorem items_sp7 (k : Nat) (s : Dw) (m : Nat) (f : List Nat) (h1 : 1 ≤ m) (h6 : m ≤ 6) (hf : ∀ x ∈ f, x < 64) (hl : f.length ≤ 8) : ∃ (r : Nat) (t : Dw), callP k81_P n (k+2) "_law_items" [s.d, .int 7, .int m, .list (List.map (fun x : Nat => PyData.int (x : Int)) f)] = .ok (.int r) [t.d, .list (List.map (fun x : Nat => PyData.int (x : Int)) f)] ∧ r < 64 := by
  have a1 : m ≤ 1000000 := by omega
  have a2 : 0 < m := by omega
  have a3 : m < 1073741824 := by omega
  have a4 : ∀ s : Dw, s.v m ≤ 1000000 := fun s => Nat.le_trans (Nat.le_of_lt (s.v_lt a2)) a1
  have a5 : ∀ s : Dw, 2 ^ s.v m < 64 := fun s => Nat.pow_lt_pow_right (by omega) (Nat.lt_of_lt_of_le (s.v_lt a2) h6)
  obtain ⟨M, hM⟩ : ∃ M, 2 ^ m = M + 1 := ⟨2 ^ m - 1, by have := Nat.two_pow_pos m; omega⟩
  have hM1 : 0 < M := by have : 2 ^ 1 ≤ 2 ^ m := Nat.pow_le_pow_right (by omega) h1; omega
  have hM2 : M < 64 := by have : 2 ^ m ≤ 2 ^ 6 := Nat.pow_le_pow_right (by omega) h6; omega
  have hM3 : M < 1073741824 := by omega
  have hM4 : ∀ s : Dw, 1 + s.v M < 64 := fun s => by have := s.v_lt hM1; omega
  by_cases hn : f = []
  · subst hn
    simp (maxDischargeDepth := 9) [zipIdx_map', eraseIdx_map', tail_map', drop_map', take_map', -List.map_tail, -List.map_drop, -List.map_take, -getElem?_pos, -getElem?_neg, -Int.natCast_shiftRight, -Nat.and_one_is_mod, -Int.natCast_pow, -Nat.one_and_eq_mod_two, C__law_items, k81_law_items, onlyIo, a1, a2, a3, a4, hM, hM1, hM3]
    exact ⟨_, ⟨rfl, _, rfl⟩, hM4 _⟩
  · have c1 : 0 < f.length := List.length_pos_iff.mpr hn
    have c2 : f.length < 1073741824 := by omega
    have c3 : ∀ s : Dw, s.v f.length < f.length := fun s => s.v_lt c1
    simp (maxDischargeDepth := 9) [zipIdx_map', eraseIdx_map', tail_map', drop_map', take_map', -List.map_tail, -List.map_drop, -List.map_take, -getElem?_pos, -getElem?_neg, -Int.natCast_shiftRight, -Nat.and_one_is_mod, -Int.natCast_pow, -Nat.one_and_eq_mod_two, C__law_items, k81_law_items, onlyIo, a1, a2, a3, a4, hM, hM1, hM3, c1, c2, c3, hn]
    exact ⟨_, ⟨rfl, _, rfl⟩, Nat.or_lt_two_pow (n := 6) (Nat.lt_of_le_of_lt Nat.and_le_left (hf _ (List.getElem_mem _))) (a5 _)⟩
theorem items_sp0 (k : Nat) (s : Dw) (m : Nat) (st : Nat) (h : st ≠ 1 ∧ st ≠ 2 ∧ st ≠ 3 ∧ st ≠ 4 ∧ st ≠ 5 ∧ st ≠ 6 ∧ st ≠ 7) (f : List Nat) (h1 : 1 ≤ m) (h6 : m ≤ 6) (hf : ∀ x ∈ f, x < 64) (hl : f.length ≤ 8) : ∃ (r : Nat) (t : Dw), callP k81_P n (k+2) "_law_items" [s.d, .int st, .int m, .list (List.map (fun x : Nat => PyData.int (x : Int)) f)] = .ok (.int r) [t.d, .list (List.map (fun x : Nat => PyData.int (x : Int)) f)] ∧ r < 64 := by
  have a1 : m ≤ 1000000 := by omega
  have a2 : 0 < m := by omega
  have a3 : m < 1073741824 := by omega
  have a4 : ∀ s : Dw, s.v m ≤ 1000000 := fun s => Nat.le_trans (Nat.le_of_lt (s.v_lt a2)) a1
  have a5 : ∀ s : Dw, 2 ^ s.v m < 64 := fun s => Nat.pow_lt_pow_right (by omega) (Nat.lt_of_lt_of_le (s.v_lt a2) h6)
  obtain ⟨M, hM⟩ : ∃ M, 2 ^ m = M + 1 := ⟨2 ^ m - 1, by have := Nat.two_pow_pos m; omega⟩
  have hM1 : 0 < M := by have : 2 ^ 1 ≤ 2 ^ m := Nat.pow_le_pow_right (by omega) h1; omega
  have hM2 : M < 64 := by have : 2 ^ m ≤ 2 ^ 6 := Nat.pow_le_pow_right (by omega) h6; omega
  have hM3 : M < 1073741824 := by omega
  have hM4 : ∀ s : Dw, 1 + s.v M < 64 := fun s => by have := s.v_lt hM1; omega
  simp (maxDischargeDepth := 9) [zipIdx_map', eraseIdx_map', tail_map', drop_map', take_map', -List.map_tail, -List.map_drop, -List.map_take, -getElem?_pos, -getElem?_neg, -Int.natCast_shiftRight, -Nat.and_one_is_mod, -Int.natCast_pow, -Nat.one_and_eq_mod_two, C__law_items, k81_law_items, onlyIo, a1, a2, a3, a4, hM, hM1, hM3, h]
  exact ⟨_, ⟨rfl, _, rfl⟩, hM4 _⟩
theorem items_sp1 (k : Nat) (s : Dw) (m : Nat) (f : List Nat) (h1 : 1 ≤ m) (h6 : m ≤ 6) (hf : ∀ x ∈ f, x < 64) (hl : f.length ≤ 8) : ∃ (r : Nat) (t : Dw), callP k81_P n (k+2) "_law_items" [s.d, .int 1, .int m, .list (List.map (fun x : Nat => PyData.int (x : Int)) f)] = .ok (.int r) [t.d, .list (List.map (fun x : Nat => PyData.int (x : Int)) f)] ∧ r < 64 := by
  have a1 : m ≤ 1000000 := by omega
  have a2 : 0 < m := by omega
  have a3 : m < 1073741824 := by omega
  have a4 : ∀ s : Dw, s.v m ≤ 1000000 := fun s => Nat.le_trans (Nat.le_of_lt (s.v_lt a2)) a1
  have a5 : ∀ s : Dw, 2 ^ s.v m < 64 := fun s => Nat.pow_lt_pow_right (by omega) (Nat.lt_of_lt_of_le (s.v_lt a2) h6)
  obtain ⟨M, hM⟩ : ∃ M, 2 ^ m = M + 1 := ⟨2 ^ m - 1, by have := Nat.two_pow_pos m; omega⟩
  have hM1 : 0 < M := by have : 2 ^ 1 ≤ 2 ^ m := Nat.pow_le_pow_right (by omega) h1; omega
  have hM2 : M < 64 := by have : 2 ^ m ≤ 2 ^ 6 := Nat.pow_le_pow_right (by omega) h6; omega
  have hM3 : M < 1073741824 := by omega
  have hM4 : ∀ s : Dw, 1 + s.v M < 64 := fun s => by have := s.v_lt hM1; omega
  have c1 : (s.t M).v m < m := Dw.v_lt _ a2
  have c3 : (((s.t M).t m).v (m - (s.t M).v m)) < m - (s.t M).v m := Dw.v_lt _ (by omega)
  have c4 : (0 : Int) < (m : Int) - ((s.t M).v m : Nat) := by omega
  have c5 : (m : Int) - ((s.t M).v m : Nat) < 1073741824 := by omega
  simp (maxDischargeDepth := 9) [zipIdx_map', eraseIdx_map', tail_map', drop_map', take_map', -List.map_tail, -List.map_drop, -List.map_take, -getElem?_pos, -getElem?_neg, -Int.natCast_shiftRight, -Nat.and_one_is_mod, -Int.natCast_pow, -Nat.one_and_eq_mod_two, C__law_items, k81_law_items, onlyIo, a1, a2, a3, a4, hM, hM1, hM3, c1, c4, c5]
  generalize hu : ((s.t M).t m) = u at *
  generalize ha : (s.t M).v m = a at *
  generalize hb : u.v (m - a) = b at *
  have d1 : a ≤ 1000000 := by omega
  have d2 : (a : Int) + b + 1 ≤ 1000000 := by omega
  have d3 : (0 : Int) ≤ (a : Int) + b + 1 := by omega
  have d4 : ((a : Int) + b + 1 - a).toNat = b + 1 := by omega
  simp (maxDischargeDepth := 9) [zipIdx_map', eraseIdx_map', tail_map', drop_map', take_map', -List.map_tail, -List.map_drop, -List.map_take, -getElem?_pos, -getElem?_neg, -Int.natCast_shiftRight, -Nat.and_one_is_mod, -Int.natCast_pow, -Nat.one_and_eq_mod_two, d1, d2, d3, d4]
  rw [compE_eq (fun _ => true) (fun k : Nat => .int ((2 ^ (a + k) : Nat) : Int)) (by simp (maxDischargeDepth := 9) [zipIdx_map', eraseIdx_map', tail_map', drop_map', take_map', -List.map_tail, -List.map_drop, -List.map_take, -getElem?_pos, -getElem?_neg, -Int.natCast_shiftRight, -Nat.and_one_is_mod, -Int.natCast_pow, -Nat.one_and_eq_mod_two]) (by simp (maxDischargeDepth := 9) [zipIdx_map', eraseIdx_map', tail_map', drop_map', take_map', -List.map_tail, -List.map_drop, -List.map_take, -getElem?_pos, -getElem?_neg, -Int.natCast_shiftRight, -Nat.and_one_is_mod, -Int.natCast_pow, -Nat.one_and_eq_mod_two]) (by simp (maxDischargeDepth := 9) [zipIdx_map', eraseIdx_map', tail_map', drop_map', take_map', -List.map_tail, -List.map_drop, -List.map_take, -getElem?_pos, -getElem?_neg, -Int.natCast_shiftRight, -Nat.and_one_is_mod, -Int.natCast_pow, -Nat.one_and_eq_mod_two])]
  · simp (maxDischargeDepth := 9) [zipIdx_map', eraseIdx_map', tail_map', drop_map', take_map', -List.map_tail, -List.map_drop, -List.map_take, -getElem?_pos, -getElem?_neg, -Int.natCast_shiftRight, -Nat.and_one_is_mod, -Int.natCast_pow, -Nat.one_and_eq_mod_two]
    refine ⟨((List.range (b + 1)).map fun k => 2 ^ (a + k)).sum, ⟨?_, _, rfl⟩, ?_⟩
    · rw [sum_cast, List.map_map]
      rfl
    · have key : ∀ a < 6, ∀ b < 6 - a, ((List.range (b + 1)).map fun k => 2 ^ (a + k)).sum < 64 := by decide
      exact key a (by omega) b (by omega)
  · intro x hx
    have := List.mem_range.mp hx
    have e1 : (a : Int) + x ≤ 1000000 := by omega
    simp (maxDischargeDepth := 9) [zipIdx_map', eraseIdx_map', tail_map', drop_map', take_map', -List.map_tail, -List.map_drop, -List.map_take, -getElem?_pos, -getElem?_neg, -Int.natCast_shiftRight, -Nat.and_one_is_mod, -Int.natCast_pow, -Nat.one_and_eq_mod_two, e1]
theorem items_sp6 (k : Nat) (s : Dw) (m : Nat) (f : List Nat) (h1 : 1 ≤ m) (h6 : m ≤ 6) (hf : ∀ x ∈ f, x < 64) (hl : f.length ≤ 8) : ∃ (r : Nat) (t : Dw), callP k81_P n (k+2) "_law_items" [s.d, .int 6, .int m, .list (List.map (fun x : Nat => PyData.int (x : Int)) f)] = .ok (.int r) [t.d, .list (List.map (fun x : Nat => PyData.int (x : Int)) f)] ∧ r < 64 := by
  have a1 : m ≤ 1000000 := by omega
  have a2 : 0 < m := by omega
  have a3 : m < 1073741824 := by omega
  have a4 : ∀ s : Dw, s.v m ≤ 1000000 := fun s => Nat.le_trans (Nat.le_of_lt (s.v_lt a2)) a1
  have a5 : ∀ s : Dw, 2 ^ s.v m < 64 := fun s => Nat.pow_lt_pow_right (by omega) (Nat.lt_of_lt_of_le (s.v_lt a2) h6)
  obtain ⟨M, hM⟩ : ∃ M, 2 ^ m = M + 1 := ⟨2 ^ m - 1, by have := Nat.two_pow_pos m; omega⟩
  have hM1 : 0 < M := by have : 2 ^ 1 ≤ 2 ^ m := Nat.pow_le_pow_right (by omega) h1; omega
  have hM2 : M < 64 := by have : 2 ^ m ≤ 2 ^ 6 := Nat.pow_le_pow_right (by omega) h6; omega
  have hM3 : M < 1073741824 := by omega
  have hM4 : ∀ s : Dw, 1 + s.v M < 64 := fun s => by have := s.v_lt hM1; omega

  simp (maxDischargeDepth := 9) [zipIdx_map', eraseIdx_map', tail_map', drop_map', take_map', -List.map_tail, -List.map_drop, -List.map_take, -getElem?_pos, -getElem?_neg, -Int.natCast_shiftRight, -Nat.and_one_is_mod, -Int.natCast_pow, -Nat.one_and_eq_mod_two, C__law_items, k81_law_items, onlyIo, a1, a2, a3, a4, hM, hM1, hM3]
  generalize hzs : List.filter (fun a => !f.any fun a_1 => a_1.testBit a) (List.range m) = zs
  have hz : zs.Sublist (List.range 6) := by
    rw [← hzs]
    exact List.filter_sublist.trans (List.range_sublist.mpr h6)
  have hz6 : ∀ x ∈ zs, x ≤ 1000000 := fun x hx => by have := List.mem_range.mp (hz.subset hx); omega
  unfold compE
  obtain ⟨ys, t, p, e⟩ := compL_st (tg := .nm 7) (vs := [7]) (cond := evC { F := callP k81_P n (k + 1), G := k81_P.G, io := k81_P.io, ff := k81_P.ff } [E.cmp Cp.eq (E.call "_law_take" [E.bor 0, E.int 2]) (E.int 0)])
    (elt := evE { F := callP k81_P n (k + 1), G := k81_P.G, io := k81_P.io, ff := k81_P.ff } (E.op Op.shl (E.int 1) (E.var 7))) (still := fun _ => true) (g := fun x : Nat => .int (x : Int)) (f := fun x : Nat => .int ((2 ^ x : Nat) : Int))
    (fun t : Dw => [Sl.ow t.d, Sl.sh (PyData.int 6), Sl.sh (PyData.int ↑m), Sl.ow (PyData.list (List.map (fun x : Nat => PyData.int (x : Int)) f)), Sl.sh (PyData.int (1 + ↑(s.v M))), Sl.un, Sl.un, Sl.un, Sl.sh (PyData.list (List.map (fun x : Nat => PyData.int (x : Int)) zs)), Sl.un]) zs (by
      intro a ha t
      have := hz6 a ha
      by_cases hc : t.v 2 = 0
      · simp (maxDischargeDepth := 9) [zipIdx_map', eraseIdx_map', tail_map', drop_map', take_map', -List.map_tail, -List.map_drop, -List.map_take, -getElem?_pos, -getElem?_neg, -Int.natCast_shiftRight, -Nat.and_one_is_mod, -Int.natCast_pow, -Nat.one_and_eq_mod_two, onlyIo, hc, this]
        exact ⟨_, rfl⟩
      · simp (maxDischargeDepth := 9) [zipIdx_map', eraseIdx_map', tail_map', drop_map', take_map', -List.map_tail, -List.map_drop, -List.map_take, -getElem?_pos, -getElem?_neg, -Int.natCast_shiftRight, -Nat.and_one_is_mod, -Int.natCast_pow, -Nat.one_and_eq_mod_two, onlyIo, hc, this]
        exact ⟨_, rfl⟩) (s.t M)
  simp (maxDischargeDepth := 9) [zipIdx_map', eraseIdx_map', tail_map', drop_map', take_map', -List.map_tail, -List.map_drop, -List.map_take, -getElem?_pos, -getElem?_neg, -Int.natCast_shiftRight, -Nat.and_one_is_mod, -Int.natCast_pow, -Nat.one_and_eq_mod_two, e]
  refine ⟨(ys.map fun x => 2 ^ x).sum, ⟨?_, _, rfl⟩, ?_⟩
  · rw [sum_cast, List.map_map]
    rfl
  · have h2 := sum_sublist (fun x => 2 ^ x) (p.trans hz)
    have : ((List.range 6).map fun x => 2 ^ x).sum = 63 := by decide
    omega
theorem items_sp (k : Nat) (s : Dw) (st m : Nat) (f : List Nat) (h1 : 1 ≤ m) (h6 : m ≤ 6) (hf : ∀ x ∈ f, x < 64) (hl : f.length ≤ 8) : ∃ (r : Nat) (t : Dw), callP k81_P n (k+2) "_law_items" [s.d, .int st, .int m, .list (List.map (fun x : Nat => PyData.int (x : Int)) f)] = .ok (.int r) [t.d, .list (List.map (fun x : Nat => PyData.int (x : Int)) f)] ∧ r < 64 := by
  by_cases h : st ≠ 1 ∧ st ≠ 2 ∧ st ≠ 3 ∧ st ≠ 4 ∧ st ≠ 5 ∧ st ≠ 6 ∧ st ≠ 7
  · exact items_sp0 k s m st h f h1 h6 hf hl
  · have : st = 1 ∨ st = 2 ∨ st = 3 ∨ st = 4 ∨ st = 5 ∨ st = 6 ∨ st = 7 := by omega
    rcases this with rfl | rfl | rfl | rfl | rfl | rfl | rfl
    · exact items_sp1 k s m f h1 h6 hf hl
    · exact items_sp2 k s m f h1 h6 hf hl
    · exact items_sp3 k s m f h1 h6 hf hl
    · exact items_sp4 k s m f h1 h6 hf hl
    · exact items_sp5 k s m f h1 h6 hf hl
    · exact items_sp6 k s m f h1 h6 hf hl
    · exact items_sp7 k s m f h1 h6 hf hl

end S81

end
section
set_option linter.all false
set_option autoImplicit false
set_option maxRecDepth 100000
set_option Elab.async false
namespace S81
open PySem JK JK.JKS
variable {n : Nat}
theorem fam_head (k : Nat) (s : Dw) (most : Nat) : ∃ (s' : Dw) (many style : Nat) (f : List Nat) (t : D), evSs ⟨callP k81_P n (k+3), k81_P.G, k81_P.io, k81_P.ff⟩ n [0] false (k81_law_family.body.take 4) [.ow s.d, .sh (.int most), .un, .un, .un, .un, .un, .un, .un, .un, .un] =
    .nx [.ow s'.d, .sh (.int most), .sh (.int many), .sh (.int style), .sh t, .ow (.list (List.map (fun x : Nat => PyData.int (x : Int)) f)), .un, .un, .un, .un, .un] ∧ 1 ≤ many ∧ many ≤ 6 ∧ Fnd f ∧ f.length ≤ 5 ∧ (most ≤ 4 → f = []) := by
  have h3 : evSs ⟨callP k81_P n (k+3), k81_P.G, k81_P.io, k81_P.ff⟩ n [0] false (k81_law_family.body.take 3) [.ow s.d, .sh (.int most), .un, .un, .un, .un, .un, .un, .un, .un, .un] =
    .nx [.ow ((s.t 6).t 13).d, .sh (.int most), .sh (.int (1 + s.v 6 : Nat)), .sh (.int ((s.t 6).v 13)), .sh (.list (toldN.map fun l => .list (List.map (fun x : Nat => PyData.int (x : Int)) l))), .ow (.list []), .un, .un, .un, .un, .un] := by
    simp (maxDischargeDepth := 9) [zipIdx_map', eraseIdx_map', tail_map', drop_map', take_map', -List.map_tail, -List.map_drop, -List.map_take, -getElem?_pos, -getElem?_neg, -Int.natCast_shiftRight, -Nat.and_one_is_mod, -Int.natCast_pow, -Nat.one_and_eq_mod_two, k81_law_family, onlyIo, freshE, toldN]
  have v6 : s.v 6 < 6 := s.v_lt (by decide)
  generalize hu : (s.t 6).t 13 = u at *
  generalize hst : (s.t 6).v 13 = st at *
  have h4 : ∃ (s' : Dw) (f : List Nat), evSs ⟨callP k81_P n (k+3), k81_P.G, k81_P.io, k81_P.ff⟩ n [0] false ((k81_law_family.body.take 4).drop 3) [.ow u.d, .sh (.int most), .sh (.int (1 + s.v 6 : Nat)), .sh (.int st), .sh (.list (toldN.map fun l => .list (List.map (fun x : Nat => PyData.int (x : Int)) l))), .ow (.list []), .un, .un, .un, .un, .un] =
    .nx [.ow s'.d, .sh (.int most), .sh (.int (1 + s.v 6 : Nat)), .sh (.int st), .sh (.list (toldN.map fun l => .list (List.map (fun x : Nat => PyData.int (x : Int)) l))), .ow (.list (List.map (fun x : Nat => PyData.int (x : Int)) f)), .un, .un, .un, .un, .un] ∧ Fnd f ∧ f.length ≤ 5 ∧ (most ≤ 4 → f = []) := by
    have e0 : Fnd [] := ⟨by simp, by simp⟩
    by_cases c1 : 9 < st
    · by_cases c2 : 4 < most
      · have w6 : u.v 6 < toldN.length := u.v_lt (by decide)
        have hk := toldN_ok _ (List.getElem_mem w6)
        obtain ⟨l, hl⟩ : ∃ l, toldN[u.v 6]'w6 = l := ⟨_, rfl⟩
        rw [hl] at hk
        have hl' : ∀ h, toldN[u.v 6]'h = l := fun _ => hl
        have d1 : 0 < l.length := by omega
        have d2 : l.length < 1073741824 := by omega
        have d3 : ∀ s : Dw, s.v l.length < l.length := fun s => s.v_lt d1
        by_cases c3 : (u.t 6).v 2 = 0
        · refine ⟨((u.t 6).t 2).t l.length, l.eraseIdx (((u.t 6).t 2).v l.length), ?_, ⟨hk.1.sublist (List.eraseIdx_sublist ..), fun x hx => hk.2.1 x ((List.eraseIdx_sublist ..).subset hx)⟩, ?_, fun h => by omega⟩
          · simp (maxDischargeDepth := 9) [zipIdx_map', eraseIdx_map', tail_map', drop_map', take_map', -List.map_tail, -List.map_drop, -List.map_take, -getElem?_pos, -getElem?_neg, -Int.natCast_shiftRight, -Nat.and_one_is_mod, -Int.natCast_pow, -Nat.one_and_eq_mod_two, k81_law_family, onlyIo, freshE, c1, c2, w6, hl', c3, d1, d2, d3]
          · have := List.length_eraseIdx_le l (((u.t 6).t 2).v l.length)
            omega
        · refine ⟨(u.t 6).t 2, l, ?_, ⟨hk.1, hk.2.1⟩, hk.2.2.2, fun h => by omega⟩
          simp (maxDischargeDepth := 9) [zipIdx_map', eraseIdx_map', tail_map', drop_map', take_map', -List.map_tail, -List.map_drop, -List.map_take, -getElem?_pos, -getElem?_neg, -Int.natCast_shiftRight, -Nat.and_one_is_mod, -Int.natCast_pow, -Nat.one_and_eq_mod_two, k81_law_family, onlyIo, freshE, c1, c2, w6, hl', c3]
      · exact ⟨u, [], by simp (maxDischargeDepth := 9) [zipIdx_map', eraseIdx_map', tail_map', drop_map', take_map', -List.map_tail, -List.map_drop, -List.map_take, -getElem?_pos, -getElem?_neg, -Int.natCast_shiftRight, -Nat.and_one_is_mod, -Int.natCast_pow, -Nat.one_and_eq_mod_two, k81_law_family, onlyIo, freshE, c1, c2], e0, by simp, fun _ => rfl⟩
    · exact ⟨u, [], by simp (maxDischargeDepth := 9) [zipIdx_map', eraseIdx_map', tail_map', drop_map', take_map', -List.map_tail, -List.map_drop, -List.map_take, -getElem?_pos, -getElem?_neg, -Int.natCast_shiftRight, -Nat.and_one_is_mod, -Int.natCast_pow, -Nat.one_and_eq_mod_two, k81_law_family, onlyIo, freshE, c1], e0, by simp, fun _ => rfl⟩
  obtain ⟨s', f, e, hf, hl, hm⟩ := h4
  refine ⟨s', 1 + s.v 6, st, f, .list (toldN.map fun l => .list (List.map (fun x : Nat => PyData.int (x : Int)) l)), ?_, by omega, by omega, hf, hl, hm⟩
  rw [evSs_cut _ _ _ _ 3 (k81_law_family.body.take 4), show (k81_law_family.body.take 4).take 3 = k81_law_family.body.take 3 from rfl, h3, sq_nx, e]
theorem fam_loop (k : Nat) (most : D) (many style : Nat) (t : D) (h1 : 1 ≤ many) (h6 : many ≤ 6) (still : Ev → Bool) (hst : ∀ ρ, still ρ = true) : ∀ (js : List Nat) (s : Dw) (f : List Nat) (x6 x7 : Sl), isOw [x7] 0 = false → f.length + js.length ≤ 8 → Fnd f → ∃ (s' : Dw) (f' : List Nat) (y6 y7 : Sl),
    forL (.nm 6) (evSs ⟨callP k81_P n (k+3), k81_P.G, k81_P.io, k81_P.ff⟩ n [0] false [.asg 7 (.call "_law_items" [.bor 0, .var 3, .var 2, .bor 5]),
     .ifs (.and (.cmp .gt (.var 7) (.int 0)) (.cmp .notIn (.var 7) (.bor 5)))
      [.app 5 (.var 7)]
      []]) still (List.map (fun x : Nat => PyData.int (x : Int)) js) [.ow s.d, .sh most, .sh (.int many), .sh (.int style), .sh t, .ow (.list (List.map (fun x : Nat => PyData.int (x : Int)) f)), x6, x7, .un, .un, .un] =
    .nx [.ow s'.d, .sh most, .sh (.int many), .sh (.int style), .sh t, .ow (.list (List.map (fun x : Nat => PyData.int (x : Int)) f')), y6, y7, .un, .un, .un] ∧ isOw [y7] 0 = false ∧ Fnd f' ∧ f'.length ≤ f.length + js.length
  | [], s, f, x6, x7, h7, _, hf => ⟨s, f, x6, x7, rfl, h7, hf, by simp⟩
  | j :: js, s, f, x6, x7, h7, hl, hf => by
    have hlen : f.length + (js.length + 1) ≤ 8 := by simpa using hl
    obtain ⟨r, u, e, hr⟩ := items_sp (n := n) (k+1) s style many f h1 h6 (fun x hx => (hf.pos x hx).2) (by omega)
    have hlf : f.length < 1000000 := by omega
    by_cases c : 0 < r ∧ r ∉ f
    · have hf2 : Fnd (f ++ [r]) := by
        refine ⟨?_, ?_⟩
        · rw [List.nodup_append]
          refine ⟨hf.nd, by simp, ?_⟩
          intro a ha b hb h
          simp at hb
          rw [h, hb] at ha
          exact c.2 ha
        · intro x hx
          rcases List.mem_append.mp hx with hx | hx
          · exact hf.pos x hx
          · simp at hx
            subst hx
            exact ⟨c.1, hr⟩
      obtain ⟨s', f', y6, y7, e2, h7', hf', hl'⟩ := fam_loop k most many style t h1 h6 still hst js u (f ++ [r]) (.sh (.int j)) (.sh (.int r)) rfl (by simp; omega) hf2
      refine ⟨s', f', y6, y7, ?_, h7', hf', by simp at hl' ⊢; omega⟩
      rw [List.map_append] at e2
      simp (maxDischargeDepth := 9) [zipIdx_map', eraseIdx_map', tail_map', drop_map', take_map', -List.map_tail, -List.map_drop, -List.map_take, -getElem?_pos, -getElem?_neg, -Int.natCast_shiftRight, -Nat.and_one_is_mod, -Int.natCast_pow, -Nat.one_and_eq_mod_two, forL, e, c.1, c.2, hlf, onlyIo, hst]
      exact e2
    · obtain ⟨s', f', y6, y7, e2, h7', hf', hl'⟩ := fam_loop k most many style t h1 h6 still hst js u f (.sh (.int j)) (.sh (.int r)) rfl (by omega) hf
      refine ⟨s', f', y6, y7, ?_, h7', hf', by simp at hl' ⊢; omega⟩
      by_cases c1 : 0 < r
      · have c2 : r ∈ f := by
          apply Classical.byContradiction
          intro h
          exact c ⟨c1, h⟩
        simp (maxDischargeDepth := 9) [zipIdx_map', eraseIdx_map', tail_map', drop_map', take_map', -List.map_tail, -List.map_drop, -List.map_take, -getElem?_pos, -getElem?_neg, -Int.natCast_shiftRight, -Nat.and_one_is_mod, -Int.natCast_pow, -Nat.one_and_eq_mod_two, forL, e, c1, c2, hlf, onlyIo, hst]
        exact e2
      · simp (maxDischargeDepth := 9) [zipIdx_map', eraseIdx_map', tail_map', drop_map', take_map', -List.map_tail, -List.map_drop, -List.map_take, -getElem?_pos, -getElem?_neg, -Int.natCast_shiftRight, -Nat.and_one_is_mod, -Int.natCast_pow, -Nat.one_and_eq_mod_two, forL, e, c1, hlf, onlyIo, hst]
        exact e2
theorem ren_comp (k : Nat) (s0 s1 s2 s3 s4 s5 s6 s9 : Sl) (l : List Nat) (hl : Nms l) (x : Nat) : evE ⟨callP k81_P n (k+3), k81_P.G, k81_P.io, k81_P.ff⟩ (.bi .sum [.comp (.op .shl (.int 1) (.sub (.var 8) (.var 10))) (.nm 10) .seq [.call "_law_in" [.var 7]] [] [10]]) [s0, s1, s2, s3, s4, s5, s6, .sh (.int x), .sh (.list (List.map (fun x : Nat => PyData.int (x : Int)) l)), s9, .un] =
    .ok (.int (ren l x)) [s0, s1, s2, s3, s4, s5, s6, .sh (.int x), .sh (.list (List.map (fun x : Nat => PyData.int (x : Int)) l)), s9, .un] := by
  simp (maxDischargeDepth := 9) [zipIdx_map', eraseIdx_map', tail_map', drop_map', take_map', -List.map_tail, -List.map_drop, -List.map_take, -getElem?_pos, -getElem?_neg, -Int.natCast_shiftRight, -Nat.and_one_is_mod, -Int.natCast_pow, -Nat.one_and_eq_mod_two]
  rw [compE_eq (fun _ => true) (fun i : Nat => PyData.int ((2 ^ l.getD i 0 : Nat) : Int)) (by simp (maxDischargeDepth := 9) [zipIdx_map', eraseIdx_map', tail_map', drop_map', take_map', -List.map_tail, -List.map_drop, -List.map_take, -getElem?_pos, -getElem?_neg, -Int.natCast_shiftRight, -Nat.and_one_is_mod, -Int.natCast_pow, -Nat.one_and_eq_mod_two]) (by simp (maxDischargeDepth := 9) [zipIdx_map', eraseIdx_map', tail_map', drop_map', take_map', -List.map_tail, -List.map_drop, -List.map_take, -getElem?_pos, -getElem?_neg, -Int.natCast_shiftRight, -Nat.and_one_is_mod, -Int.natCast_pow, -Nat.one_and_eq_mod_two]) (by simp (maxDischargeDepth := 9) [zipIdx_map', eraseIdx_map', tail_map', drop_map', take_map', -List.map_tail, -List.map_drop, -List.map_take, -getElem?_pos, -getElem?_neg, -Int.natCast_shiftRight, -Nat.and_one_is_mod, -Int.natCast_pow, -Nat.one_and_eq_mod_two])]
  · simp (maxDischargeDepth := 9) [zipIdx_map', eraseIdx_map', tail_map', drop_map', take_map', -List.map_tail, -List.map_drop, -List.map_take, -getElem?_pos, -getElem?_neg, -Int.natCast_shiftRight, -Nat.and_one_is_mod, -Int.natCast_pow, -Nat.one_and_eq_mod_two, ren]
    rw [sum_cast, List.map_map]
    rfl
  · intro a ha
    have h1 := (mem_pin.mp ha).1
    have h2 : a < l.length := by rw [hl.len]; exact h1
    have h3 : l[a] ≤ 1000000 := by have := hl.lt _ (List.getElem_mem h2); omega
    simp (maxDischargeDepth := 9) [zipIdx_map', eraseIdx_map', tail_map', drop_map', take_map', -List.map_tail, -List.map_drop, -List.map_take, -getElem?_pos, -getElem?_neg, -Int.natCast_shiftRight, -Nat.and_one_is_mod, -Int.natCast_pow, -Nat.one_and_eq_mod_two, h2, h3]
    simp [h2]
theorem fam_tail (k : Nat) (hn : 100 ≤ n) (s : Dw) (most many style t : D) (f : List Nat) (x6 x7 : Sl) (h7 : isOw [x7] 0 = false) (hf : Fnd f) (hl : f.length ≤ 8) : ∃ (s' : Dw) (fs : List Nat), finC false [0] (evSs ⟨callP k81_P n (k+3), k81_P.G, k81_P.io, k81_P.ff⟩ n [0] false (k81_law_family.body.drop 5) [.ow s.d, .sh most, .sh many, .sh style, .sh t, .ow (.list (List.map (fun x : Nat => PyData.int (x : Int)) f)), x6, x7, .un, .un, .un]) =
    .ok (.tuple (List.map (fun x : Nat => PyData.int (x : Int)) fs)) [s'.d] ∧ Fam fs ∧ fs.length ≤ max f.length 1 := by
  obtain ⟨l, u, e, hp⟩ := order_sp (n := n) (k+1) s 6 (by omega) hn
  have hL := Nms.of hp
  replace e : callP k81_P n (k+3) "_law_order" [s.d, .int 6] = .ok (.list (List.map (fun x : Nat => PyData.int (x : Int)) l)) [u.d] := e
  have hr := fun x s6 => ren_comp (n := n) k (.ow u.d) (.sh most) (.sh many) (.sh style) (.sh t) (.ow (.list (List.map (fun x : Nat => PyData.int (x : Int)) f))) s6 .un l hL x
  rw [isOw_z] at h7
  by_cases hn0 : f = []
  · subst hn0
    have hF : Fam (sortN ([1].map (ren l))) := fam_of ⟨by simp, by simp⟩ hL (by simp) (by simp)
    refine ⟨u, _, ?_, hF, by simp [len_sortN]⟩
    simp (maxDischargeDepth := 9) [zipIdx_map', eraseIdx_map', tail_map', drop_map', take_map', -List.map_tail, -List.map_drop, -List.map_take, -getElem?_pos, -getElem?_neg, -Int.natCast_shiftRight, -Nat.and_one_is_mod, -Int.natCast_pow, -Nat.one_and_eq_mod_two, k81_law_family, e, onlyIo, h7]
    rw [show [PyData.int 1] = [1].map (fun x : Nat => PyData.int (x : Int)) from rfl, compE_eq (fun _ => true) (fun x : Nat => PyData.int ((ren l x : Nat) : Int)) (by simp (maxDischargeDepth := 9) [zipIdx_map', eraseIdx_map', tail_map', drop_map', take_map', -List.map_tail, -List.map_drop, -List.map_take, -getElem?_pos, -getElem?_neg, -Int.natCast_shiftRight, -Nat.and_one_is_mod, -Int.natCast_pow, -Nat.one_and_eq_mod_two, h7]) (by simp (maxDischargeDepth := 9) [zipIdx_map', eraseIdx_map', tail_map', drop_map', take_map', -List.map_tail, -List.map_drop, -List.map_take, -getElem?_pos, -getElem?_neg, -Int.natCast_shiftRight, -Nat.and_one_is_mod, -Int.natCast_pow, -Nat.one_and_eq_mod_two]) (by simp (maxDischargeDepth := 9) [zipIdx_map', eraseIdx_map', tail_map', drop_map', take_map', -List.map_tail, -List.map_drop, -List.map_take, -getElem?_pos, -getElem?_neg, -Int.natCast_shiftRight, -Nat.and_one_is_mod, -Int.natCast_pow, -Nat.one_and_eq_mod_two])]
    · have hb := bi_sorted (fun x : Nat => x) [ren l 1]
      simp only [List.map_cons, List.map_nil] at hb
      simp (maxDischargeDepth := 9) [zipIdx_map', eraseIdx_map', tail_map', drop_map', take_map', -List.map_tail, -List.map_drop, -List.map_take, -getElem?_pos, -getElem?_neg, -Int.natCast_shiftRight, -Nat.and_one_is_mod, -Int.natCast_pow, -Nat.one_and_eq_mod_two, hb]
    · intro a ha
      refine ⟨_, rfl, ?_⟩
      simp only [List.map_nil] at hr
      simp (maxDischargeDepth := 9) [zipIdx_map', eraseIdx_map', tail_map', drop_map', take_map', -List.map_tail, -List.map_drop, -List.map_take, -getElem?_pos, -getElem?_neg, -Int.natCast_shiftRight, -Nat.and_one_is_mod, -Int.natCast_pow, -Nat.one_and_eq_mod_two, -evE_bi, hr]
  · have hF : Fam (sortN (f.map (ren l))) := fam_of hf hL (by have := List.length_pos_iff.mpr hn0; omega) hl
    refine ⟨u, _, ?_, hF, by simp [len_sortN]; omega⟩
    simp (maxDischargeDepth := 9) [zipIdx_map', eraseIdx_map', tail_map', drop_map', take_map', -List.map_tail, -List.map_drop, -List.map_take, -getElem?_pos, -getElem?_neg, -Int.natCast_shiftRight, -Nat.and_one_is_mod, -Int.natCast_pow, -Nat.one_and_eq_mod_two, k81_law_family, e, onlyIo, hn0, h7]
    rw [compE_eq (fun _ => true) (fun x : Nat => PyData.int ((ren l x : Nat) : Int)) (by simp (maxDischargeDepth := 9) [zipIdx_map', eraseIdx_map', tail_map', drop_map', take_map', -List.map_tail, -List.map_drop, -List.map_take, -getElem?_pos, -getElem?_neg, -Int.natCast_shiftRight, -Nat.and_one_is_mod, -Int.natCast_pow, -Nat.one_and_eq_mod_two, h7]) (by simp (maxDischargeDepth := 9) [zipIdx_map', eraseIdx_map', tail_map', drop_map', take_map', -List.map_tail, -List.map_drop, -List.map_take, -getElem?_pos, -getElem?_neg, -Int.natCast_shiftRight, -Nat.and_one_is_mod, -Int.natCast_pow, -Nat.one_and_eq_mod_two]) (by simp (maxDischargeDepth := 9) [zipIdx_map', eraseIdx_map', tail_map', drop_map', take_map', -List.map_tail, -List.map_drop, -List.map_take, -getElem?_pos, -getElem?_neg, -Int.natCast_shiftRight, -Nat.and_one_is_mod, -Int.natCast_pow, -Nat.one_and_eq_mod_two])]
    · simp (maxDischargeDepth := 9) [zipIdx_map', eraseIdx_map', tail_map', drop_map', take_map', -List.map_tail, -List.map_drop, -List.map_take, -getElem?_pos, -getElem?_neg, -Int.natCast_shiftRight, -Nat.and_one_is_mod, -Int.natCast_pow, -Nat.one_and_eq_mod_two]
    · intro a ha
      refine ⟨_, rfl, ?_⟩
      simp (maxDischargeDepth := 9) [zipIdx_map', eraseIdx_map', tail_map', drop_map', take_map', -List.map_tail, -List.map_drop, -List.map_take, -getElem?_pos, -getElem?_neg, -Int.natCast_shiftRight, -Nat.and_one_is_mod, -Int.natCast_pow, -Nat.one_and_eq_mod_two, -evE_bi, hr]
theorem family_sp (k : Nat) (hn : 100 ≤ n) (s : Dw) (most : Nat) (h1 : 1 ≤ most) (h8 : most ≤ 8) : ∃ (fs : List Nat) (t : Dw), callP k81_P n (k+4) "_law_family" [s.d, .int most] = .ok (.tuple (List.map (fun x : Nat => PyData.int (x : Int)) fs)) [t.d] ∧ Fam fs ∧ fs.length ≤ max most 6 ∧ (most ≤ 4 → fs.length ≤ most) := by
  obtain ⟨s1, many, style, f, t, e1, m1, m6, hf, hl, hm⟩ := fam_head (n := n) k s most
  have step : ∃ (js : List Nat) (s2 : Dw), evAs ⟨callP k81_P n (k+3), k81_P.G, k81_P.io, k81_P.ff⟩ [.ite (.cmp .eq (.bor 5) (.lst [])) (.op .add (.int 1) (.call "_law_take" [.bor 0, .var 1])) (.call "_law_take" [.bor 0, .int 2])] [.ow s1.d, .sh (.int most), .sh (.int many), .sh (.int style), .sh t, .ow (.list (List.map (fun x : Nat => PyData.int (x : Int)) f)), .un, .un, .un, .un, .un] =
      .ok [.val (.int js.length)] [.ow s2.d, .sh (.int most), .sh (.int many), .sh (.int style), .sh t, .ow (.list (List.map (fun x : Nat => PyData.int (x : Int)) f)), .un, .un, .un, .un, .un] ∧ js = List.range js.length ∧ f.length + js.length ≤ max most 6 ∧ (most ≤ 4 → f.length + js.length ≤ most) := by
    by_cases c : f = []
    · subst c
      have hv : s1.v most < most := s1.v_lt (by omega)
      have h1' : 0 < most := by omega
      have h2' : most < 1073741824 := by omega
      refine ⟨List.range (1 + s1.v most), s1.t most, ?_, by simp, by simp; omega, fun _ => by simp; omega⟩
      simp (maxDischargeDepth := 9) [zipIdx_map', eraseIdx_map', tail_map', drop_map', take_map', -List.map_tail, -List.map_drop, -List.map_take, -getElem?_pos, -getElem?_neg, -Int.natCast_shiftRight, -Nat.and_one_is_mod, -Int.natCast_pow, -Nat.one_and_eq_mod_two, onlyIo, h1', h2']
    · have hv : s1.v 2 < 2 := s1.v_lt (by omega)
      refine ⟨List.range (s1.v 2), s1.t 2, ?_, by simp, by simp; omega, fun h => absurd (hm h) c⟩
      simp (maxDischargeDepth := 9) [zipIdx_map', eraseIdx_map', tail_map', drop_map', take_map', -List.map_tail, -List.map_drop, -List.map_take, -getElem?_pos, -getElem?_neg, -Int.natCast_shiftRight, -Nat.and_one_is_mod, -Int.natCast_pow, -Nat.one_and_eq_mod_two, onlyIo, c]
  obtain ⟨js, s2, e2, ej, hj, hj4⟩ := step
  have j8 : js.length ≤ 1000000 := by omega
  obtain ⟨s3, f', y6, y7, e3, h7', hf', hl'⟩ := fam_loop (n := n) k (.int most) many style t m1 m6 (fun _ => true) (fun _ => rfl) js s2 f .un .un rfl (by omega) hf
  obtain ⟨s4, fs, e4, hF, hL⟩ := fam_tail (n := n) k hn s3 (.int most) (.int many) (.int style) t f' y6 y7 h7' hf' (by omega)
  refine ⟨fs, s4, ?_, hF, ?_, ?_⟩
  · rw [C__law_family _ _ _ _ (isLst_dw s), evSs_cut _ _ _ _ 4, e1, sq_nx, evSs_cut _ _ _ _ 1, show (k81_law_family.body.drop 4).drop 1 = k81_law_family.body.drop 5 from rfl]
    have e5 : evSs ⟨callP k81_P n (k+3), k81_P.G, k81_P.io, k81_P.ff⟩ n [0] false ((k81_law_family.body.drop 4).take 1) [.ow s1.d, .sh (.int most), .sh (.int many), .sh (.int style), .sh t, .ow (.list (List.map (fun x : Nat => PyData.int (x : Int)) f)), .un, .un, .un, .un, .un] = .nx [.ow s3.d, .sh (.int most), .sh (.int many), .sh (.int style), .sh t, .ow (.list (List.map (fun x : Nat => PyData.int (x : Int)) f')), y6, y7, .un, .un, .un] := by
      rw [show (k81_law_family.body.drop 4).take 1 = [.for_ (.nm 6) .rng [.ite (.cmp .eq (.bor 5) (.lst [])) (.op .add (.int 1) (.call "_law_take" [.bor 0, .var 1])) (.call "_law_take" [.bor 0, .int 2])]
    [.asg 7 (.call "_law_items" [.bor 0, .var 3, .var 2, .bor 5]),
     .ifs (.and (.cmp .gt (.var 7) (.int 0)) (.cmp .notIn (.var 7) (.bor 5)))
      [.app 5 (.var 7)]
      []]] from rfl, evSs_cons', evS_for, e2, out_ok]
      have e6 : itemsD .rng [.int (js.length : Int)] = .ok (List.map (fun x : Nat => PyData.int (x : Int)) js) := by
        rw [it_rngN _ (by omega) (by omega), Int.toNat_natCast, ← ej]
      simp only [rsAll_cons, rs_val, Option.bind_some, rsAll_nil, Option.map_some, borIn_v, borIn_n, e6, lift_ok, out_ok, Bool.false_eq_true, if_false]
      rw [show (fun ρ' : Ev => sameD (some [PyData.int (js.length : Int)]) (some [PyData.int (js.length : Int)])) = fun _ => true from funext fun _ => sameD_some _ (by simp), e3]
      simp
    rw [e5, sq_nx, e4]
    rfl
  · omega
  · intro h
    omega

end S81

end
section
set_option linter.all false
set_option autoImplicit false
set_option maxRecDepth 100000
set_option Elab.async false
namespace S81
open PySem JK JK.JKS
variable {n : Nat}
theorem odd_sp (k : Nat) (s : Dw) : ∃ (v : D) (t : Dw), callP k81_P n (k+2) "_law_odd" [s.d] = .ok v [t.d] ∧ v ∈ oddL := by
  have h : s.v 12 < oddL.length := s.v_lt (by decide)
  refine ⟨oddL[s.v 12]'h, s.t 12, ?_, List.getElem_mem h⟩
  have h12 : s.v 12 < 12 := s.v_lt (by decide)
  simp (maxDischargeDepth := 9) [zipIdx_map', eraseIdx_map', tail_map', drop_map', take_map', -List.map_tail, -List.map_drop, -List.map_take, -getElem?_pos, -getElem?_neg, -Int.natCast_shiftRight, -Nat.and_one_is_mod, -Int.natCast_pow, -Nat.one_and_eq_mod_two, C__law_odd, k81_law_odd, onlyIo, oddL, h12]
theorem is_family_odd (k : Nat) (v : D) (h : v ∈ oddL) : callP k81_P n (k+3) "is_family" [v] = .ok (.bool false) [] := by
  have e1 := is_set_sp (n := n) k 0
  have e3 := is_set_sp (n := n) k 3
  have e5 := is_set_sp (n := n) k 5
  have e6 := is_set_sp (n := n) k 64
  have em : callP k81_P n (k+2) "is_set" [.int (-1)] = .ok (.bool false) [] := by simp (maxDischargeDepth := 9) [zipIdx_map', eraseIdx_map', tail_map', drop_map', take_map', -List.map_tail, -List.map_drop, -List.map_take, -getElem?_pos, -getElem?_neg, -Int.natCast_shiftRight, -Nat.and_one_is_mod, -Int.natCast_pow, -Nat.one_and_eq_mod_two, C_is_set, k81_is_set]
  have eb : callP k81_P n (k+2) "is_set" [.bool true] = .ok (.bool false) [] := by simp (maxDischargeDepth := 9) [zipIdx_map', eraseIdx_map', tail_map', drop_map', take_map', -List.map_tail, -List.map_drop, -List.map_take, -getElem?_pos, -getElem?_neg, -Int.natCast_shiftRight, -Nat.and_one_is_mod, -Int.natCast_pow, -Nat.one_and_eq_mod_two, C_is_set, k81_is_set]
  have es : callP k81_P n (k+2) "is_set" [.str (Str.ofString "3")] = .ok (.bool false) [] := by simp (maxDischargeDepth := 9) [zipIdx_map', eraseIdx_map', tail_map', drop_map', take_map', -List.map_tail, -List.map_drop, -List.map_take, -getElem?_pos, -getElem?_neg, -Int.natCast_shiftRight, -Nat.and_one_is_mod, -Int.natCast_pow, -Nat.one_and_eq_mod_two, C_is_set, k81_is_set]
  simp (maxDischargeDepth := 9) [zipIdx_map', eraseIdx_map', tail_map', drop_map', take_map', -List.map_tail, -List.map_drop, -List.map_take, -getElem?_pos, -getElem?_neg, -Int.natCast_shiftRight, -Nat.and_one_is_mod, -Int.natCast_pow, -Nat.one_and_eq_mod_two] at e1 e3 e5 e6
  simp only [oddL, List.mem_cons, List.not_mem_nil, or_false] at h
  rcases h with rfl | rfl | rfl | rfl | rfl | rfl | rfl | rfl | rfl | rfl | rfl | rfl <;> simp (maxDischargeDepth := 9) [zipIdx_map', eraseIdx_map', tail_map', drop_map', take_map', -List.map_tail, -List.map_drop, -List.map_take, -getElem?_pos, -getElem?_neg, -Int.natCast_shiftRight, -Nat.and_one_is_mod, -Int.natCast_pow, -Nat.one_and_eq_mod_two, C_is_family, k81_is_family, compE, compL, boolsD, bi_all_def, e1, e3, e5, e6, em, eb, es]
@[simp] theorem check_odd (k : Nat) (v : D) (h : v ∈ oddL) : callP k81_P n (k+4) "check_family" [v] = .ex "Malformed" .none [] := by
  have e := is_family_odd (n := n) k v h
  simp (maxDischargeDepth := 9) [zipIdx_map', eraseIdx_map', tail_map', drop_map', take_map', -List.map_tail, -List.map_drop, -List.map_take, -getElem?_pos, -getElem?_neg, -Int.natCast_shiftRight, -Nat.and_one_is_mod, -Int.natCast_pow, -Nat.one_and_eq_mod_two, C_check_family, k81_check_family, e]

end S81

end
section
set_option linter.all false
set_option autoImplicit false
set_option maxRecDepth 100000
set_option Elab.async false
namespace S81
open PySem JK JK.JKS
variable {n : Nat}
theorem draw_sp (k : Nat) (ns : List Int) (hl : ns.length ≤ 63) : ∃ s : Dw, callP k81_P n (k+1) "_law_draw" [.list (ns.map PyData.int)] = .ok s.d [] := by
  obtain ⟨v, y2, h, e⟩ := draw_loop ⟨callP k81_P n k, k81_P.G, k81_P.io, k81_P.ff⟩ n true 48271 65521 1 2147483647 (by decide) (by decide) (by decide) (.list (ns.map PyData.int)) ns 7 .un rfl
  rw [isOw_z] at h
  refine ⟨⟨ns.map Int.natAbs, 0, 0, v⟩, ?_⟩
  have e2 : (fun a : Int => PyData.int (if a < 0 then -a else a)) = fun a : Int => PyData.int (a.natAbs : Int) := funext fun a => congrArg PyData.int (by split <;> omega)
  rw [C__law_draw, show k81_law_draw.body = [.asg 1 (.int 7)] ++ (.for_ (.nm 2) .seq [.var 0] [.asg 1 (.op .mod (.bi .int [.op .add (.op .add (.op .mul (.var 1) (.int 48271)) (.op .mod (.bi .abs [.bi .int [.var 2]]) (.int 65521))) (.int 1)]) (.int 2147483647))] :: [.ret (.lst [.comp (.bi .abs [.bi .int [.var 2]]) (.nm 2) .seq [.var 0] [] [2], .neg (.int 1), .int 0, .var 1])]) from rfl, evSs_append]
  have e3 : evSs ⟨callP k81_P n k, k81_P.G, k81_P.io, k81_P.ff⟩ n [] true [.asg 1 (.int 7)] [Sl.sh (.list (ns.map PyData.int)), Sl.un, Sl.un] = .nx [Sl.sh (.list (ns.map PyData.int)), .sh (.int (7 : Nat)), Sl.un] := by simp (maxDischargeDepth := 9) [zipIdx_map', eraseIdx_map', tail_map', drop_map', take_map', -List.map_tail, -List.map_drop, -List.map_take, -getElem?_pos, -getElem?_neg, -Int.natCast_shiftRight, -Nat.and_one_is_mod, -Int.natCast_pow, -Nat.one_and_eq_mod_two]
  rw [e3, sq_nx, evSs_cons', evS_for]
  have e4 : evAs ⟨callP k81_P n k, k81_P.G, k81_P.io, k81_P.ff⟩ [.var 0] [Sl.sh (.list (ns.map PyData.int)), .sh (.int (7 : Nat)), Sl.un] = .ok [.val (.list (ns.map PyData.int))] [Sl.sh (.list (ns.map PyData.int)), .sh (.int (7 : Nat)), Sl.un] := by simp (maxDischargeDepth := 9) [zipIdx_map', eraseIdx_map', tail_map', drop_map', take_map', -List.map_tail, -List.map_drop, -List.map_take, -getElem?_pos, -getElem?_neg, -Int.natCast_shiftRight, -Nat.and_one_is_mod, -Int.natCast_pow, -Nat.one_and_eq_mod_two]
  rw [e4, out_ok]
  simp only [rsAll_cons, rs_val, Option.bind_some, rsAll_nil, Option.map_some, borIn_v, borIn_n, it_seqL, lift_ok, out_ok, Bool.false_eq_true, if_false]
  rw [show (fun ρ' : Ev => sameD (some [PyData.list (ns.map PyData.int)]) (some [PyData.list (ns.map PyData.int)])) = fun _ => true from funext fun _ => sameD_some _ (by simp), e, sq_nx]
  simp (maxDischargeDepth := 9) [zipIdx_map', eraseIdx_map', tail_map', drop_map', take_map', -List.map_tail, -List.map_drop, -List.map_take, -getElem?_pos, -getElem?_neg, -Int.natCast_shiftRight, -Nat.and_one_is_mod, -Int.natCast_pow, -Nat.one_and_eq_mod_two, freshE, Dw.d, nats, h, e2]

end S81

end
section
set_option linter.all false
set_option autoImplicit false
set_option maxRecDepth 100000
set_option Elab.async false
namespace S81
open PySem JK JK.JKS
variable {n : Nat}
def nearN (fs : List Nat) (x y : Nat) : Bool := fs.any fun s => s.testBit x && s.testBit y
def farN (fs : List Nat) (x y : Nat) : Bool := !nearN fs x y
theorem near_comm (fs : List Nat) (x y : Nat) : nearN fs x y = nearN fs y x := by
  unfold nearN
  congr 1; funext s
  rw [Bool.and_comm]
theorem far_comm (fs : List Nat) (x y : Nat) : farN fs x y = farN fs y x := by rw [farN, farN, near_comm]
theorem near_sp (k : Nat) (fs : List Nat) (x y : Nat) (hx : x ≤ 1000000) (hy : y ≤ 1000000) : callP k81_P n (k+2) "stand_together" [.tuple (List.map (fun x : Nat => PyData.int (x : Int)) fs), .int x, .int y] = .ok (.bool (nearN fs x y)) [] := by
  simp (maxDischargeDepth := 9) [zipIdx_map', eraseIdx_map', tail_map', drop_map', take_map', -List.map_tail, -List.map_drop, -List.map_take, -getElem?_pos, -getElem?_neg, -Int.natCast_shiftRight, -Nat.and_one_is_mod, -Int.natCast_pow, -Nat.one_and_eq_mod_two, C_stand_together, k81_stand_together, nearN, hx, hy]
theorem lnear_sp (k : Nat) (fs : List Nat) (x y : Nat) (hx : x ≤ 1000000) (hy : y ≤ 1000000) : callP k81_P n (k+1) "_law_near" [.tuple (List.map (fun x : Nat => PyData.int (x : Int)) fs), .int x, .int y] = .ok (.bool (nearN fs x y)) [] := by
  simp (maxDischargeDepth := 9) [zipIdx_map', eraseIdx_map', tail_map', drop_map', take_map', -List.map_tail, -List.map_drop, -List.map_take, -getElem?_pos, -getElem?_neg, -Int.natCast_shiftRight, -Nat.and_one_is_mod, -Int.natCast_pow, -Nat.one_and_eq_mod_two, C__law_near, k81_law_near, nearN, hx, hy]
theorem ltog_sp (k : Nat) (fs row : List Nat) (hr : ∀ x ∈ row, x < 6) : callP k81_P n (k+2) "_law_together" [.tuple (List.map (fun x : Nat => PyData.int (x : Int)) fs), tupN row] = .ok (.bool (row.all fun x => row.all fun y => nearN fs x y)) [] := by
  have hn : ∀ x ∈ row, ∀ y ∈ row, callP k81_P n (k+1) "_law_near" [.tuple (List.map (fun x : Nat => PyData.int (x : Int)) fs), .int x, .int y] = .ok (.bool (nearN fs x y)) [] := fun x hx y hy => lnear_sp (n := n) k fs x y (by have := hr x hx; omega) (by have := hr y hy; omega)
  rw [tupN]
  simp (maxDischargeDepth := 9) [zipIdx_map', eraseIdx_map', tail_map', drop_map', take_map', -List.map_tail, -List.map_drop, -List.map_take, -getElem?_pos, -getElem?_neg, -Int.natCast_shiftRight, -Nat.and_one_is_mod, -Int.natCast_pow, -Nat.one_and_eq_mod_two, C__law_together, k81_law_together]
  rw [compE_eq (fun _ => true) (fun x : Nat => PyData.bool (row.all fun y => nearN fs x y)) (by simp (maxDischargeDepth := 9) [zipIdx_map', eraseIdx_map', tail_map', drop_map', take_map', -List.map_tail, -List.map_drop, -List.map_take, -getElem?_pos, -getElem?_neg, -Int.natCast_shiftRight, -Nat.and_one_is_mod, -Int.natCast_pow, -Nat.one_and_eq_mod_two]) (by simp (maxDischargeDepth := 9) [zipIdx_map', eraseIdx_map', tail_map', drop_map', take_map', -List.map_tail, -List.map_drop, -List.map_take, -getElem?_pos, -getElem?_neg, -Int.natCast_shiftRight, -Nat.and_one_is_mod, -Int.natCast_pow, -Nat.one_and_eq_mod_two]) (by simp (maxDischargeDepth := 9) [zipIdx_map', eraseIdx_map', tail_map', drop_map', take_map', -List.map_tail, -List.map_drop, -List.map_take, -getElem?_pos, -getElem?_neg, -Int.natCast_shiftRight, -Nat.and_one_is_mod, -Int.natCast_pow, -Nat.one_and_eq_mod_two])]
  · have ha := bi_all (fun x : Nat => row.all fun y => nearN fs x y) row
    simp (maxDischargeDepth := 9) [zipIdx_map', eraseIdx_map', tail_map', drop_map', take_map', -List.map_tail, -List.map_drop, -List.map_take, -getElem?_pos, -getElem?_neg, -Int.natCast_shiftRight, -Nat.and_one_is_mod, -Int.natCast_pow, -Nat.one_and_eq_mod_two, ha]
  · intro x hx
    refine ⟨_, rfl, ?_⟩
    simp (maxDischargeDepth := 9) [zipIdx_map', eraseIdx_map', tail_map', drop_map', take_map', -List.map_tail, -List.map_drop, -List.map_take, -getElem?_pos, -getElem?_neg, -Int.natCast_shiftRight, -Nat.and_one_is_mod, -Int.natCast_pow, -Nat.one_and_eq_mod_two]
    rw [compE_eq (fun _ => true) (fun y : Nat => PyData.bool (nearN fs x y)) (by simp (maxDischargeDepth := 9) [zipIdx_map', eraseIdx_map', tail_map', drop_map', take_map', -List.map_tail, -List.map_drop, -List.map_take, -getElem?_pos, -getElem?_neg, -Int.natCast_shiftRight, -Nat.and_one_is_mod, -Int.natCast_pow, -Nat.one_and_eq_mod_two]) (by simp (maxDischargeDepth := 9) [zipIdx_map', eraseIdx_map', tail_map', drop_map', take_map', -List.map_tail, -List.map_drop, -List.map_take, -getElem?_pos, -getElem?_neg, -Int.natCast_shiftRight, -Nat.and_one_is_mod, -Int.natCast_pow, -Nat.one_and_eq_mod_two]) (by simp (maxDischargeDepth := 9) [zipIdx_map', eraseIdx_map', tail_map', drop_map', take_map', -List.map_tail, -List.map_drop, -List.map_take, -getElem?_pos, -getElem?_neg, -Int.natCast_shiftRight, -Nat.and_one_is_mod, -Int.natCast_pow, -Nat.one_and_eq_mod_two])]
    · have ha := bi_all (fun y : Nat => nearN fs x y) row
      simp (maxDischargeDepth := 9) [zipIdx_map', eraseIdx_map', tail_map', drop_map', take_map', -List.map_tail, -List.map_drop, -List.map_take, -getElem?_pos, -getElem?_neg, -Int.natCast_shiftRight, -Nat.and_one_is_mod, -Int.natCast_pow, -Nat.one_and_eq_mod_two, ha]
    · intro y hy
      have e := hn x hx y hy
      simp (maxDischargeDepth := 9) [zipIdx_map', eraseIdx_map', tail_map', drop_map', take_map', -List.map_tail, -List.map_drop, -List.map_take, -getElem?_pos, -getElem?_neg, -Int.natCast_shiftRight, -Nat.and_one_is_mod, -Int.natCast_pow, -Nat.one_and_eq_mod_two, e]
theorem lalone_sp (k : Nat) (fs row : List Nat) (hr : ∀ x ∈ row, x < 6) : callP k81_P n (k+2) "_law_alone" [.tuple (List.map (fun x : Nat => PyData.int (x : Int)) fs), tupN row] = .ok (.bool (PW (farN fs) row)) [] := by
  have hn : ∀ x ∈ row, ∀ y ∈ row, callP k81_P n (k+1) "_law_near" [.tuple (List.map (fun x : Nat => PyData.int (x : Int)) fs), .int x, .int y] = .ok (.bool (nearN fs x y)) [] := fun x hx y hy => lnear_sp (n := n) k fs x y (by have := hr x hx; omega) (by have := hr y hy; omega)
  have hp : PW (farN fs) row = !(row.any fun x => row.any fun y => !(x == y) && nearN fs x y) := by
    rw [PW, List.not_any_eq_all_not]
    congr 1; funext x
    rw [List.not_any_eq_all_not]
    congr 1; funext y
    rw [farN]
    cases (x == y) <;> cases nearN fs x y <;> rfl
  rw [hp, tupN]
  simp (maxDischargeDepth := 9) [zipIdx_map', eraseIdx_map', tail_map', drop_map', take_map', -List.map_tail, -List.map_drop, -List.map_take, -getElem?_pos, -getElem?_neg, -Int.natCast_shiftRight, -Nat.and_one_is_mod, -Int.natCast_pow, -Nat.one_and_eq_mod_two, C__law_alone, k81_law_alone]
  rw [compE_eq (fun _ => true) (fun x : Nat => PyData.bool (row.any fun y => !(x == y) && nearN fs x y)) (by simp (maxDischargeDepth := 9) [zipIdx_map', eraseIdx_map', tail_map', drop_map', take_map', -List.map_tail, -List.map_drop, -List.map_take, -getElem?_pos, -getElem?_neg, -Int.natCast_shiftRight, -Nat.and_one_is_mod, -Int.natCast_pow, -Nat.one_and_eq_mod_two]) (by simp (maxDischargeDepth := 9) [zipIdx_map', eraseIdx_map', tail_map', drop_map', take_map', -List.map_tail, -List.map_drop, -List.map_take, -getElem?_pos, -getElem?_neg, -Int.natCast_shiftRight, -Nat.and_one_is_mod, -Int.natCast_pow, -Nat.one_and_eq_mod_two]) (by simp (maxDischargeDepth := 9) [zipIdx_map', eraseIdx_map', tail_map', drop_map', take_map', -List.map_tail, -List.map_drop, -List.map_take, -getElem?_pos, -getElem?_neg, -Int.natCast_shiftRight, -Nat.and_one_is_mod, -Int.natCast_pow, -Nat.one_and_eq_mod_two])]
  · have ha := bi_any (fun x : Nat => row.any fun y => !(x == y) && nearN fs x y) row
    simp (maxDischargeDepth := 9) [zipIdx_map', eraseIdx_map', tail_map', drop_map', take_map', -List.map_tail, -List.map_drop, -List.map_take, -getElem?_pos, -getElem?_neg, -Int.natCast_shiftRight, -Nat.and_one_is_mod, -Int.natCast_pow, -Nat.one_and_eq_mod_two, ha]
  · intro x hx
    refine ⟨_, rfl, ?_⟩
    simp (maxDischargeDepth := 9) [zipIdx_map', eraseIdx_map', tail_map', drop_map', take_map', -List.map_tail, -List.map_drop, -List.map_take, -getElem?_pos, -getElem?_neg, -Int.natCast_shiftRight, -Nat.and_one_is_mod, -Int.natCast_pow, -Nat.one_and_eq_mod_two]
    rw [compE_eq (fun _ => true) (fun y : Nat => PyData.bool (!(x == y) && nearN fs x y)) (by simp (maxDischargeDepth := 9) [zipIdx_map', eraseIdx_map', tail_map', drop_map', take_map', -List.map_tail, -List.map_drop, -List.map_take, -getElem?_pos, -getElem?_neg, -Int.natCast_shiftRight, -Nat.and_one_is_mod, -Int.natCast_pow, -Nat.one_and_eq_mod_two]) (by simp (maxDischargeDepth := 9) [zipIdx_map', eraseIdx_map', tail_map', drop_map', take_map', -List.map_tail, -List.map_drop, -List.map_take, -getElem?_pos, -getElem?_neg, -Int.natCast_shiftRight, -Nat.and_one_is_mod, -Int.natCast_pow, -Nat.one_and_eq_mod_two]) (by simp (maxDischargeDepth := 9) [zipIdx_map', eraseIdx_map', tail_map', drop_map', take_map', -List.map_tail, -List.map_drop, -List.map_take, -getElem?_pos, -getElem?_neg, -Int.natCast_shiftRight, -Nat.and_one_is_mod, -Int.natCast_pow, -Nat.one_and_eq_mod_two])]
    · have ha := bi_any (fun y : Nat => !(x == y) && nearN fs x y) row
      simp (maxDischargeDepth := 9) [zipIdx_map', eraseIdx_map', tail_map', drop_map', take_map', -List.map_tail, -List.map_drop, -List.map_take, -getElem?_pos, -getElem?_neg, -Int.natCast_shiftRight, -Nat.and_one_is_mod, -Int.natCast_pow, -Nat.one_and_eq_mod_two, ha]
    · intro y hy
      have e := hn x hx y hy
      refine ⟨_, rfl, ?_⟩
      by_cases c : x = y
      · subst c
        simp (maxDischargeDepth := 9) [zipIdx_map', eraseIdx_map', tail_map', drop_map', take_map', -List.map_tail, -List.map_drop, -List.map_take, -getElem?_pos, -getElem?_neg, -Int.natCast_shiftRight, -Nat.and_one_is_mod, -Int.natCast_pow, -Nat.one_and_eq_mod_two]
      · simp (maxDischargeDepth := 9) [zipIdx_map', eraseIdx_map', tail_map', drop_map', take_map', -List.map_tail, -List.map_drop, -List.map_take, -getElem?_pos, -getElem?_neg, -Int.natCast_shiftRight, -Nat.and_one_is_mod, -Int.natCast_pow, -Nat.one_and_eq_mod_two, e, c]

end S81

end
section
set_option linter.all false
set_option autoImplicit false
set_option maxRecDepth 100000
set_option Elab.async false
namespace S81
open PySem JK JK.JKS
variable {n : Nat}
def bestL (rows : List (List Nat)) : Nat := maxN (rows.map List.length)
theorem some_len (p : Nat → Nat → Bool) (rows : List (List Nat)) (it : Nat) : (someS p rows it).length ≤ 2 * rows.length := by
  have := List.length_filter_le (fun row : List Nat => row.all fun x => p it x) rows
  rw [someS, List.length_append, List.length_map]
  omega
theorem some_lens (p : Nat → Nat → Bool) : ∀ (l : List Nat) (rows : List (List Nat)), (l.foldl (someS p) rows).length ≤ 2 ^ l.length * rows.length
  | [], rows => by simp
  | x :: l, rows => by
    have h1 := some_lens p l (someS p rows x)
    have h2 := Nat.mul_le_mul_left (2 ^ l.length) (some_len p rows x)
    rw [List.foldl_cons, List.length_cons, Nat.pow_succ, Nat.mul_assoc]
    omega
/-- rows made of points of l -/
theorem some_mem (p : Nat → Nat → Bool) : ∀ (l : List Nat) (rows : List (List Nat)) (b : Nat) (Q : Nat → Prop), (∀ r ∈ rows, r.length ≤ b ∧ ∀ x ∈ r, Q x) → (∀ x ∈ l, Q x) → ∀ r ∈ l.foldl (someS p) rows, r.length ≤ b + l.length ∧ ∀ x ∈ r, Q x
  | [], rows, b, Q, h, _ => by simpa using h
  | x :: l, rows, b, Q, h, hQ => by
    have h1 := some_mem p l (someS p rows x) (b + 1) Q (fun r hr => by
      rcases List.mem_append.mp hr with hr | hr
      · have := h r hr; exact ⟨by omega, this.2⟩
      · obtain ⟨q, hq, rfl⟩ := List.mem_map.mp hr
        have := h q (List.mem_filter.mp hq).1
        refine ⟨by simp; omega, fun y hy => ?_⟩
        rcases List.mem_append.mp hy with hy | hy
        · exact this.2 y hy
        · have : y = x := by simpa using hy
          exact this ▸ hQ x (by simp)) fun y hy => hQ y (by simp [hy])
    intro r hr
    have := h1 r hr
    exact ⟨by have := this.1; simp; omega, this.2⟩
theorem some_ne (p : Nat → Nat → Bool) : ∀ (fs : List Nat) (rows : List (List Nat)), rows ≠ [] → fs.foldl (someS p) rows ≠ []
  | [], _, h => h
  | it :: fs, rows, h => some_ne p fs _ (by rw [someS]; intro e; exact h (List.append_eq_nil_iff.mp e).1)
/-- what a run over rows keeps: the first that is longer than all before -/
def longN (rows : List (List Nat)) (b : List Nat) : List Nat := rows.foldl (fun b r => if b.length < r.length then r else b) b
theorem long_ok : ∀ (rows : List (List Nat)) (b : List Nat), (longN rows b = b ∨ longN rows b ∈ rows) ∧ b.length ≤ (longN rows b).length ∧ ∀ r ∈ rows, r.length ≤ (longN rows b).length
  | [], b => ⟨.inl rfl, Nat.le_refl _, fun _ h => by cases h⟩
  | r :: rows, b => by
    obtain ⟨h1, h2, h3⟩ := long_ok rows (if b.length < r.length then r else b)
    have e : longN (r :: rows) b = longN rows (if b.length < r.length then r else b) := rfl
    rw [e]
    by_cases c : b.length < r.length
    · rw [if_pos c] at h1 h2 h3 ⊢
      refine ⟨.inr ?_, by omega, fun q hq => ?_⟩
      · rcases h1 with h1 | h1
        · rw [h1]; simp
        · exact List.mem_cons_of_mem _ h1
      · rcases List.mem_cons.mp hq with rfl | hq
        · exact h2
        · exact h3 q hq
    · rw [if_neg c] at h1 h2 h3 ⊢
      refine ⟨h1.imp id (List.mem_cons_of_mem _), h2, fun q hq => ?_⟩
      rcases List.mem_cons.mp hq with rfl | hq
      · omega
      · exact h3 q hq
theorem long_best {rows : List (List Nat)} (h : [] ∈ rows) : longN rows [] ∈ rows ∧ (longN rows []).length = bestL rows := by
  obtain ⟨h1, _, h3⟩ := long_ok rows []
  have hm : longN rows [] ∈ rows := by
    rcases h1 with h1 | h1
    · rw [h1]; exact h
    · exact h1
  refine ⟨hm, ?_⟩
  rw [bestL]
  have hne : rows.map List.length ≠ [] := fun e => by rw [List.map_eq_nil_iff] at e; rw [e] at h; cases h
  obtain ⟨r, hr, e⟩ := List.mem_map.mp (maxN_mem hne)
  have h4 := h3 r hr
  have h5 : (longN rows []).length ≤ maxN (rows.map List.length) := le_maxN (List.mem_map.mpr ⟨_, hm, rfl⟩)
  omega
theorem some_nil (p : Nat → Nat → Bool) : ∀ (l : List Nat) (rows : List (List Nat)), [] ∈ rows → [] ∈ l.foldl (someS p) rows
  | [], _, h => h
  | x :: l, rows, h => some_nil p l _ (List.mem_append_left _ h)
theorem alone_step (k : Nat) (fs pts : List Nat) (rows : List (List Nat)) (it : Nat) (h6 : it < 6) (hl : rows.length ≤ 400) (h8 : ∀ r ∈ rows, r.length ≤ 20 ∧ ∀ x ∈ r, x < 6) (s2 : Sl) :
    evSs ⟨callP k81_P n (k+2), k81_P.G, k81_P.io, k81_P.ff⟩ n [] false [.asg 3 (.op .add (.var 3) (.comp (.op .add (.var 5) (.tup [.var 4])) (.nm 5) .seq [.var 3] [.not (.bi .any [.comp (.call "stand_together" [.var 0, .var 4, .var 6]) (.nm 6) .seq [.var 5] [] [6]])] [5]))] [.sh (.tuple (List.map (fun x : Nat => PyData.int (x : Int)) fs)), .sh (.list (List.map (fun x : Nat => PyData.int (x : Int)) pts)), s2, .sh (.list (rows.map tupN)), .sh (.int it), .un, .un] =
      .nx [.sh (.tuple (List.map (fun x : Nat => PyData.int (x : Int)) fs)), .sh (.list (List.map (fun x : Nat => PyData.int (x : Int)) pts)), s2, .sh (.list ((someS (farN fs) rows it).map tupN)), .sh (.int it), .un, .un] := by
  have ev : evE ⟨callP k81_P n (k+2), k81_P.G, k81_P.io, k81_P.ff⟩ (.comp (.op .add (.var 5) (.tup [.var 4])) (.nm 5) .seq [.var 3] [.not (.bi .any [.comp (.call "stand_together" [.var 0, .var 4, .var 6]) (.nm 6) .seq [.var 5] [] [6]])] [5]) [.sh (.tuple (List.map (fun x : Nat => PyData.int (x : Int)) fs)), .sh (.list (List.map (fun x : Nat => PyData.int (x : Int)) pts)), s2, .sh (.list (rows.map tupN)), .sh (.int it), .un, .un] = .ok (.list (((rows.filter fun row => row.all fun x => farN fs it x).map fun row => row ++ [it]).map tupN)) [.sh (.tuple (List.map (fun x : Nat => PyData.int (x : Int)) fs)), .sh (.list (List.map (fun x : Nat => PyData.int (x : Int)) pts)), s2, .sh (.list (rows.map tupN)), .sh (.int it), .un, .un] := by
    have hsh : (rows.all fun a => shap 98 (tupN a)) = true := by rw [List.all_eq_true]; intro a _; simp [tupN]
    simp (maxDischargeDepth := 9) [zipIdx_map', eraseIdx_map', tail_map', drop_map', take_map', -List.map_tail, -List.map_drop, -List.map_take, -getElem?_pos, -getElem?_neg, -Int.natCast_shiftRight, -Nat.and_one_is_mod, -Int.natCast_pow, -Nat.one_and_eq_mod_two]
    rw [compE_eq (fun row : List Nat => row.all fun x => farN fs it x) (fun row : List Nat => tupN (row ++ [it])) (by simp (maxDischargeDepth := 9) [zipIdx_map', eraseIdx_map', tail_map', drop_map', take_map', -List.map_tail, -List.map_drop, -List.map_take, -getElem?_pos, -getElem?_neg, -Int.natCast_shiftRight, -Nat.and_one_is_mod, -Int.natCast_pow, -Nat.one_and_eq_mod_two]) (by simp (maxDischargeDepth := 9) [zipIdx_map', eraseIdx_map', tail_map', drop_map', take_map', -List.map_tail, -List.map_drop, -List.map_take, -getElem?_pos, -getElem?_neg, -Int.natCast_shiftRight, -Nat.and_one_is_mod, -Int.natCast_pow, -Nat.one_and_eq_mod_two]) (by simp (maxDischargeDepth := 9) [zipIdx_map', eraseIdx_map', tail_map', drop_map', take_map', -List.map_tail, -List.map_drop, -List.map_take, -getElem?_pos, -getElem?_neg, -Int.natCast_shiftRight, -Nat.and_one_is_mod, -Int.natCast_pow, -Nat.one_and_eq_mod_two, tupN])]
    · simp (maxDischargeDepth := 9) [zipIdx_map', eraseIdx_map', tail_map', drop_map', take_map', -List.map_tail, -List.map_drop, -List.map_take, -getElem?_pos, -getElem?_neg, -Int.natCast_shiftRight, -Nat.and_one_is_mod, -Int.natCast_pow, -Nat.one_and_eq_mod_two, List.map_map, Function.comp]
    · intro row hr
      obtain ⟨hrl, hr6⟩ := h8 row hr
      have hA := opT (xs := List.map (fun x : Nat => PyData.int (x : Int)) row) (ys := [.int it]) (by simp; omega)
      have hx : (row.all fun x => farN fs it x) = !(row.any fun x => nearN fs it x) := by
        rw [List.not_any_eq_all_not]; rfl
      have ha := bi_any (fun x : Nat => nearN fs it x) row
      have hc : compE (.nm 6) [6] [.val (.tuple (List.map (fun x : Nat => PyData.int (x : Int)) row))] [.tuple (List.map (fun x : Nat => PyData.int (x : Int)) row)] (evC ⟨callP k81_P n (k+2), k81_P.G, k81_P.io, k81_P.ff⟩ []) (evE ⟨callP k81_P n (k+2), k81_P.G, k81_P.io, k81_P.ff⟩ (.call "stand_together" [.var 0, .var 4, .var 6])) (List.map (fun x : Nat => PyData.int (x : Int)) row) [.sh (.tuple (List.map (fun x : Nat => PyData.int (x : Int)) fs)), .sh (.list (List.map (fun x : Nat => PyData.int (x : Int)) pts)), s2, .sh (.list (rows.map tupN)), .sh (.int it), .sh (.tuple (List.map (fun x : Nat => PyData.int (x : Int)) row)), .un] = .ok (row.map fun y => PyData.bool (nearN fs it y)) [.sh (.tuple (List.map (fun x : Nat => PyData.int (x : Int)) fs)), .sh (.list (List.map (fun x : Nat => PyData.int (x : Int)) pts)), s2, .sh (.list (rows.map tupN)), .sh (.int it), .sh (.tuple (List.map (fun x : Nat => PyData.int (x : Int)) row)), .un] := by
        rw [compE_eq (fun _ => true) (fun y : Nat => PyData.bool (nearN fs it y)) (by simp (maxDischargeDepth := 9) [zipIdx_map', eraseIdx_map', tail_map', drop_map', take_map', -List.map_tail, -List.map_drop, -List.map_take, -getElem?_pos, -getElem?_neg, -Int.natCast_shiftRight, -Nat.and_one_is_mod, -Int.natCast_pow, -Nat.one_and_eq_mod_two]) (by simp (maxDischargeDepth := 9) [zipIdx_map', eraseIdx_map', tail_map', drop_map', take_map', -List.map_tail, -List.map_drop, -List.map_take, -getElem?_pos, -getElem?_neg, -Int.natCast_shiftRight, -Nat.and_one_is_mod, -Int.natCast_pow, -Nat.one_and_eq_mod_two]) (by simp (maxDischargeDepth := 9) [zipIdx_map', eraseIdx_map', tail_map', drop_map', take_map', -List.map_tail, -List.map_drop, -List.map_take, -getElem?_pos, -getElem?_neg, -Int.natCast_shiftRight, -Nat.and_one_is_mod, -Int.natCast_pow, -Nat.one_and_eq_mod_two])]
        · rw [filter_tt]
        · intro y hy
          have e := near_sp (n := n) k fs it y (by omega) (by have := hr6 y hy; omega)
          refine ⟨_, rfl, ?_⟩
          simp (maxDischargeDepth := 9) [zipIdx_map', eraseIdx_map', tail_map', drop_map', take_map', -List.map_tail, -List.map_drop, -List.map_take, -getElem?_pos, -getElem?_neg, -Int.natCast_shiftRight, -Nat.and_one_is_mod, -Int.natCast_pow, -Nat.one_and_eq_mod_two, e]
      refine ⟨_, rfl, ?_⟩
      rw [hx]
      cases hcc : row.any fun x => nearN fs it x with
      | true => rw [hcc] at ha; simp (maxDischargeDepth := 9) [zipIdx_map', eraseIdx_map', tail_map', drop_map', take_map', -List.map_tail, -List.map_drop, -List.map_take, -getElem?_pos, -getElem?_neg, -Int.natCast_shiftRight, -Nat.and_one_is_mod, -Int.natCast_pow, -Nat.one_and_eq_mod_two, tupN, hc, ha, hA, hsh]
      | false => rw [hcc] at ha; simp (maxDischargeDepth := 9) [zipIdx_map', eraseIdx_map', tail_map', drop_map', take_map', -List.map_tail, -List.map_drop, -List.map_take, -getElem?_pos, -getElem?_neg, -Int.natCast_shiftRight, -Nat.and_one_is_mod, -Int.natCast_pow, -Nat.one_and_eq_mod_two, tupN, hc, ha, hA, hsh]
  have hB := opL (xs := rows.map tupN) (ys := ((rows.filter fun row => row.all fun x => farN fs it x).map fun row => row ++ [it]).map tupN) (by
    have := List.length_filter_le (fun row : List Nat => row.all fun x => farN fs it x) rows
    simp only [List.length_map]
    omega)
  rw [someS, List.map_append]
  rw [evSs_cons', evS_asg, evE_op, show evA ⟨callP k81_P n (k+2), k81_P.G, k81_P.io, k81_P.ff⟩ (.var 3) [.sh (.tuple (List.map (fun x : Nat => PyData.int (x : Int)) fs)), .sh (.list (List.map (fun x : Nat => PyData.int (x : Int)) pts)), s2, .sh (.list (rows.map tupN)), .sh (.int it), .un, .un] = .ok (.val (.list (rows.map tupN))) [.sh (.tuple (List.map (fun x : Nat => PyData.int (x : Int)) fs)), .sh (.list (List.map (fun x : Nat => PyData.int (x : Int)) pts)), s2, .sh (.list (rows.map tupN)), .sh (.int it), .un, .un] from by simp (maxDischargeDepth := 9) [zipIdx_map', eraseIdx_map', tail_map', drop_map', take_map', -List.map_tail, -List.map_drop, -List.map_take, -getElem?_pos, -getElem?_neg, -Int.natCast_shiftRight, -Nat.and_one_is_mod, -Int.natCast_pow, -Nat.one_and_eq_mod_two], bd_ok, evA_comp, ev]
  generalize ((rows.filter fun row => row.all fun x => farN fs it x).map fun row => row ++ [it]).map tupN = B at *
  generalize rows.map tupN = A at *
  simp (maxDischargeDepth := 9) [zipIdx_map', eraseIdx_map', tail_map', drop_map', take_map', -List.map_tail, -List.map_drop, -List.map_take, -getElem?_pos, -getElem?_neg, -Int.natCast_shiftRight, -Nat.and_one_is_mod, -Int.natCast_pow, -Nat.one_and_eq_mod_two, hB]

end S81

end
section
set_option linter.all false
set_option autoImplicit false
set_option maxRecDepth 100000
set_option Elab.async false
namespace S81
open PySem JK JK.JKS
variable {n : Nat}
theorem uni_loop (C : Cfg) (fs : D) : ∀ (l : List Nat) (a : Nat) (x2 : Sl), isOw [x2] 0 = false → ∃ y2 : Sl, isOw [y2] 0 = false ∧
    forL (.nm 2) (evSs C n [] false [.asg 1 (.op .bor (.var 1) (.var 2))]) (fun _ => true) (List.map (fun x : Nat => PyData.int (x : Int)) l) [.sh fs, .sh (.int a), x2] = .nx [.sh fs, .sh (.int (l.foldl (fun a b => a ||| b) a : Nat)), y2]
  | [], a, x2, h => ⟨x2, h, rfl⟩
  | i :: l, a, x2, h => by
    obtain ⟨y2, hy, e⟩ := uni_loop C fs l (a ||| i) (.sh (.int i)) rfl
    refine ⟨y2, hy, ?_⟩
    simp (maxDischargeDepth := 9) [zipIdx_map', eraseIdx_map', tail_map', drop_map', take_map', -List.map_tail, -List.map_drop, -List.map_take, -getElem?_pos, -getElem?_neg, -Int.natCast_shiftRight, -Nat.and_one_is_mod, -Int.natCast_pow, -Nat.one_and_eq_mod_two, forL]
    exact e
theorem union_sp (k : Nat) (fs : List Nat) : callP k81_P n (k+1) "union_of" [.tuple (List.map (fun x : Nat => PyData.int (x : Int)) fs)] = .ok (.int (uni fs)) [] := by
  obtain ⟨y2, hy, e⟩ := uni_loop (n := n) ⟨callP k81_P n k, k81_P.G, k81_P.io, k81_P.ff⟩ (.tuple (List.map (fun x : Nat => PyData.int (x : Int)) fs)) fs 0 .un rfl
  replace e : forL (.nm 2) (evSs ⟨callP k81_P n k, k81_P.G, k81_P.io, k81_P.ff⟩ n [] false [.asg 1 (.op .bor (.var 1) (.var 2))]) (fun _ => true) (List.map (fun x : Nat => PyData.int (x : Int)) fs) [.sh (.tuple (List.map (fun x : Nat => PyData.int (x : Int)) fs)), .sh (.int 0), .un] = _ := e
  simp (maxDischargeDepth := 9) [zipIdx_map', eraseIdx_map', tail_map', drop_map', take_map', -List.map_tail, -List.map_drop, -List.map_take, -getElem?_pos, -getElem?_neg, -Int.natCast_shiftRight, -Nat.and_one_is_mod, -Int.natCast_pow, -Nat.one_and_eq_mod_two, C_union_of, k81_union_of]
  rw [e]
  simp (maxDischargeDepth := 9) [zipIdx_map', eraseIdx_map', tail_map', drop_map', take_map', -List.map_tail, -List.map_drop, -List.map_take, -getElem?_pos, -getElem?_neg, -Int.natCast_shiftRight, -Nat.and_one_is_mod, -Int.natCast_pow, -Nat.one_and_eq_mod_two, uni]
theorem setof_sp (k : Nat) (l : List Nat) (hl : ∀ x ∈ l, x ≤ 1000) : callP k81_P n (k+1) "set_of" [.list (List.map (fun x : Nat => PyData.int (x : Int)) l)] = .ok (.int (orN l)) [] := by
  have hs : shaps 99 (List.map (fun x : Nat => PyData.int (x : Int)) l) = true := by simp
  rw [C_set_of]
  refine fin_PO ?_
  refine PO_step (ρ1 := [.sh (.list (List.map (fun x : Nat => PyData.int (x : Int)) l)), .sh (.int 0), .un]) (by simp (maxDischargeDepth := 9) [zipIdx_map', eraseIdx_map', tail_map', drop_map', take_map', -List.map_tail, -List.map_drop, -List.map_take, -getElem?_pos, -getElem?_neg, -Int.natCast_shiftRight, -Nat.and_one_is_mod, -Int.natCast_pow, -Nat.one_and_eq_mod_two]) ?_
  refine PO_for1 (xs := l) (g := fun x : Nat => PyData.int (x : Int)) (fun pre ρ => ∃ x2, ρ = [.sh (.list (List.map (fun x : Nat => PyData.int (x : Int)) l)), .sh (.int (orN pre)), x2]) (d := .list (List.map (fun x : Nat => PyData.int (x : Int)) l)) (by simp (maxDischargeDepth := 9) [zipIdx_map', eraseIdx_map', tail_map', drop_map', take_map', -List.map_tail, -List.map_drop, -List.map_take, -getElem?_pos, -getElem?_neg, -Int.natCast_shiftRight, -Nat.and_one_is_mod, -Int.natCast_pow, -Nat.one_and_eq_mod_two, orN]) rfl (by rw [shap_list, hs]) ⟨.un, rfl⟩ ?_ ?_
  · rintro p x q hq ρ ⟨x2, rfl⟩
    have hx : x ≤ 1000000 := by have := hl x (by rw [hq]; simp); omega
    refine ⟨_, rfl, PO_end (ρ1 := [.sh (.list (List.map (fun x : Nat => PyData.int (x : Int)) l)), .sh (.int (orN p ||| 2 ^ x : Nat)), .sh (.int x)]) (by simp (maxDischargeDepth := 9) [zipIdx_map', eraseIdx_map', tail_map', drop_map', take_map', -List.map_tail, -List.map_drop, -List.map_take, -getElem?_pos, -getElem?_neg, -Int.natCast_shiftRight, -Nat.and_one_is_mod, -Int.natCast_pow, -Nat.one_and_eq_mod_two, hx]) ⟨.sh (.int x), ?_⟩⟩
    rw [orN, orN, List.foldl_append]
    rfl
  · rintro ρ ⟨x2, rfl⟩
    exact PO_last (ρ1 := [.sh (.list (List.map (fun x : Nat => PyData.int (x : Int)) l)), .sh (.int (orN l)), x2]) (by simp (maxDischargeDepth := 9) [zipIdx_map', eraseIdx_map', tail_map', drop_map', take_map', -List.map_tail, -List.map_drop, -List.map_take, -getElem?_pos, -getElem?_neg, -Int.natCast_shiftRight, -Nat.and_one_is_mod, -Int.natCast_pow, -Nat.one_and_eq_mod_two]) rfl

theorem ptt_sp (k : Nat) (fs : List Nat) : callP k81_P n (k+3) "points_tuple" [.tuple (List.map (fun x : Nat => PyData.int (x : Int)) fs)] = .ok (.list (List.map (fun x : Nat => PyData.int (x : Int)) (pin (uni fs)))) [] := by
  have e := union_sp (n := n) (k+1) fs
  simp (maxDischargeDepth := 9) [zipIdx_map', eraseIdx_map', tail_map', drop_map', take_map', -List.map_tail, -List.map_drop, -List.map_take, -getElem?_pos, -getElem?_neg, -Int.natCast_shiftRight, -Nat.and_one_is_mod, -Int.natCast_pow, -Nat.one_and_eq_mod_two, C_points_tuple, k81_points_tuple, e]
/-- the rows of points two by two apart, of points two by two together -/
def loneR (fs : List Nat) : List (List Nat) := (pin (uni fs)).foldl (someS (farN fs)) [[]]
def lotR (fs : List Nat) : List (List Nat) := (pin (uni fs)).foldl (someS (nearN fs)) [[]]
theorem rows_sz (p : Nat → Nat → Bool) (u : Nat) (pre q : List Nat) (h : pin u = pre ++ q) : (pre.foldl (someS p) [[]]).length ≤ 400 ∧ ∀ r ∈ pre.foldl (someS p) [[]], r.length ≤ 20 ∧ ∀ x ∈ r, x < 6 := by
  have h6 : (pin u).length ≤ 6 := size_le u
  have hp : pre.length ≤ 6 := by rw [h, List.length_append] at h6; omega
  have h1 := some_lens p pre [[]]
  have h2 : 2 ^ pre.length ≤ 2 ^ 6 := Nat.pow_le_pow_right (by decide) hp
  have h3 := some_mem p pre [[]] 0 (fun x => x < 6) (fun r hr => by
    have : r = [] := by simpa using hr
    subst this; simp) (fun x hx => (mem_pin.mp (show x ∈ pin u by rw [h]; simp [hx])).1)
  refine ⟨?_, fun r hr => ?_⟩
  · simp at h1; omega
  · have := h3 r hr
    exact ⟨by omega, this.2⟩
theorem tups_shap (rows : List (List Nat)) : shap 100 (.list (rows.map tupN)) = true := by
  rw [shap_list, shaps_iff]
  intro d hd
  obtain ⟨r, _, rfl⟩ := List.mem_map.mp hd
  simp [tupN]
theorem alone_sp (k : Nat) (fs : List Nat) (hF : Fam fs) : callP k81_P n (k+5) "greatest_alone" [.tuple (List.map (fun x : Nat => PyData.int (x : Int)) fs)] = .ok (.tuple [.int ((longN (loneR fs) []).length : Nat), tupN (longN (loneR fs) [])]) [] := by
  have ep := ptt_sp (n := n) (k+1) fs
  rw [C_greatest_alone]
  refine fin_PO ?_
  refine PO_steps 4 (ρ1 := [.sh (.tuple (List.map (fun x : Nat => PyData.int (x : Int)) fs)), .sh (.list (List.map (fun x : Nat => PyData.int (x : Int)) (pin (uni fs)))), .sh (.tuple []), .sh (.list ([[]].map tupN)), .un, .un, .un]) (by simp (maxDischargeDepth := 9) [zipIdx_map', eraseIdx_map', tail_map', drop_map', take_map', -List.map_tail, -List.map_drop, -List.map_take, -getElem?_pos, -getElem?_neg, -Int.natCast_shiftRight, -Nat.and_one_is_mod, -Int.natCast_pow, -Nat.one_and_eq_mod_two, k81_greatest_alone, hF, ep, tupN]) ?_
  refine PO_for1 (xs := pin (uni fs)) (g := fun x : Nat => PyData.int (x : Int)) (fun pre ρ => ∃ o4, ρ = [.sh (.tuple (List.map (fun x : Nat => PyData.int (x : Int)) fs)), .sh (.list (List.map (fun x : Nat => PyData.int (x : Int)) (pin (uni fs)))), .sh (.tuple []), .sh (.list ((pre.foldl (someS (farN fs)) [[]]).map tupN)), jn o4, .un, .un]) (d := .list (List.map (fun x : Nat => PyData.int (x : Int)) (pin (uni fs)))) (by simp (maxDischargeDepth := 9) [zipIdx_map', eraseIdx_map', tail_map', drop_map', take_map', -List.map_tail, -List.map_drop, -List.map_take, -getElem?_pos, -getElem?_neg, -Int.natCast_shiftRight, -Nat.and_one_is_mod, -Int.natCast_pow, -Nat.one_and_eq_mod_two]) rfl (by simp (maxDischargeDepth := 9) [zipIdx_map', eraseIdx_map', tail_map', drop_map', take_map', -List.map_tail, -List.map_drop, -List.map_take, -getElem?_pos, -getElem?_neg, -Int.natCast_shiftRight, -Nat.and_one_is_mod, -Int.natCast_pow, -Nat.one_and_eq_mod_two]) ⟨none, rfl⟩ ?_ ?_
  · rintro p x q hq ρ ⟨o4, rfl⟩
    obtain ⟨h1, h2⟩ := rows_sz (farN fs) (uni fs) p (x :: q) hq
    have hx6 := (mem_pin.mp (show x ∈ pin (uni fs) by rw [hq]; simp)).1
    refine ⟨_, rfl, PO_end (alone_step (n := n) (k+2) fs (pin (uni fs)) _ x hx6 h1 h2 (.sh (.tuple []))) ⟨some (.int x), ?_⟩⟩
    rw [List.foldl_append]
    rfl
  · rintro ρ ⟨o4, rfl⟩
    rw [show (pin (uni fs)).foldl (someS (farN fs)) [[]] = loneR fs from rfl]
    have hsz := rows_sz (farN fs) (uni fs) (pin (uni fs)) [] (by simp)
    rw [show (pin (uni fs)).foldl (someS (farN fs)) [[]] = loneR fs from rfl] at hsz
    refine PO_for1 (xs := loneR fs) (g := tupN) (fun pre ρ => ∃ o5, ρ = [.sh (.tuple (List.map (fun x : Nat => PyData.int (x : Int)) fs)), .sh (.list (List.map (fun x : Nat => PyData.int (x : Int)) (pin (uni fs)))), .sh (tupN (longN pre [])), .sh (.list ((loneR fs).map tupN)), jn o4, jn o5, .un]) (d := .list ((loneR fs).map tupN)) (by simp (maxDischargeDepth := 9) [zipIdx_map', eraseIdx_map', tail_map', drop_map', take_map', -List.map_tail, -List.map_drop, -List.map_take, -getElem?_pos, -getElem?_neg, -Int.natCast_shiftRight, -Nat.and_one_is_mod, -Int.natCast_pow, -Nat.one_and_eq_mod_two, longN, tupN]) rfl (tups_shap _) ⟨none, rfl⟩ ?_ ?_
    · rintro p r q hq ρ ⟨o5, rfl⟩
      refine ⟨_, rfl, PO_end (ρ1 := [.sh (.tuple (List.map (fun x : Nat => PyData.int (x : Int)) fs)), .sh (.list (List.map (fun x : Nat => PyData.int (x : Int)) (pin (uni fs)))), .sh (tupN (longN (p ++ [r]) [])), .sh (.list ((loneR fs).map tupN)), jn o4, .sh (tupN r), .un]) ?_ ⟨some _, rfl⟩⟩
      have e : longN (p ++ [r]) [] = if (longN p []).length < r.length then r else longN p [] := by
        rw [longN, List.foldl_append]; rfl
      rw [e]
      by_cases c : (longN p []).length < r.length
      · rw [if_pos c]
        simp (maxDischargeDepth := 9) [zipIdx_map', eraseIdx_map', tail_map', drop_map', take_map', -List.map_tail, -List.map_drop, -List.map_take, -getElem?_pos, -getElem?_neg, -Int.natCast_shiftRight, -Nat.and_one_is_mod, -Int.natCast_pow, -Nat.one_and_eq_mod_two, tupN, c]
      · rw [if_neg c]
        simp (maxDischargeDepth := 9) [zipIdx_map', eraseIdx_map', tail_map', drop_map', take_map', -List.map_tail, -List.map_drop, -List.map_take, -getElem?_pos, -getElem?_neg, -Int.natCast_shiftRight, -Nat.and_one_is_mod, -Int.natCast_pow, -Nat.one_and_eq_mod_two, tupN, c]
    · rintro ρ ⟨o5, rfl⟩
      refine PO_last (ρ1 := [.sh (.tuple (List.map (fun x : Nat => PyData.int (x : Int)) fs)), .sh (.list (List.map (fun x : Nat => PyData.int (x : Int)) (pin (uni fs)))), .sh (tupN (longN (loneR fs) [])), .sh (.list ((loneR fs).map tupN)), jn o4, jn o5, .un]) ?_ rfl
      simp (maxDischargeDepth := 9) [zipIdx_map', eraseIdx_map', tail_map', drop_map', take_map', -List.map_tail, -List.map_drop, -List.map_take, -getElem?_pos, -getElem?_neg, -Int.natCast_shiftRight, -Nat.and_one_is_mod, -Int.natCast_pow, -Nat.one_and_eq_mod_two, tupN]

end S81

end
section
set_option linter.all false
set_option autoImplicit false
set_option maxRecDepth 100000
set_option Elab.async false
namespace S81
open PySem JK JK.JKS
variable {n : Nat}
theorem lot_step (k : Nat) (fs : List Nat) (rows : List (List Nat)) (it : Nat) (h6 : it < 6) (hl : rows.length ≤ 400) (h8 : ∀ r ∈ rows, r.length ≤ 20 ∧ ∀ x ∈ r, x < 6) :
    evSs ⟨callP k81_P n (k+2), k81_P.G, k81_P.io, k81_P.ff⟩ n [] false [.asg 1 (.op .add (.var 1) (.comp (.op .add (.var 3) (.tup [.var 2])) (.nm 3) .seq [.var 1] [.bi .all [.comp (.call "stand_together" [.var 0, .var 2, .var 4]) (.nm 4) .seq [.var 3] [] [4]]] [3]))] [.sh (.tuple (List.map (fun x : Nat => PyData.int (x : Int)) fs)), .sh (.list (rows.map tupN)), .sh (.int it), .un, .un, .un] =
      .nx [.sh (.tuple (List.map (fun x : Nat => PyData.int (x : Int)) fs)), .sh (.list ((someS (nearN fs) rows it).map tupN)), .sh (.int it), .un, .un, .un] := by
  have ev : evE ⟨callP k81_P n (k+2), k81_P.G, k81_P.io, k81_P.ff⟩ (.comp (.op .add (.var 3) (.tup [.var 2])) (.nm 3) .seq [.var 1] [.bi .all [.comp (.call "stand_together" [.var 0, .var 2, .var 4]) (.nm 4) .seq [.var 3] [] [4]]] [3]) [.sh (.tuple (List.map (fun x : Nat => PyData.int (x : Int)) fs)), .sh (.list (rows.map tupN)), .sh (.int it), .un, .un, .un] = .ok (.list (((rows.filter fun row => row.all fun x => nearN fs it x).map fun row => row ++ [it]).map tupN)) [.sh (.tuple (List.map (fun x : Nat => PyData.int (x : Int)) fs)), .sh (.list (rows.map tupN)), .sh (.int it), .un, .un, .un] := by
    have hsh : (rows.all fun a => shap 98 (tupN a)) = true := by rw [List.all_eq_true]; intro a _; simp [tupN]
    simp (maxDischargeDepth := 9) [zipIdx_map', eraseIdx_map', tail_map', drop_map', take_map', -List.map_tail, -List.map_drop, -List.map_take, -getElem?_pos, -getElem?_neg, -Int.natCast_shiftRight, -Nat.and_one_is_mod, -Int.natCast_pow, -Nat.one_and_eq_mod_two]
    rw [compE_eq (fun row : List Nat => row.all fun x => nearN fs it x) (fun row : List Nat => tupN (row ++ [it])) (by simp (maxDischargeDepth := 9) [zipIdx_map', eraseIdx_map', tail_map', drop_map', take_map', -List.map_tail, -List.map_drop, -List.map_take, -getElem?_pos, -getElem?_neg, -Int.natCast_shiftRight, -Nat.and_one_is_mod, -Int.natCast_pow, -Nat.one_and_eq_mod_two]) (by simp (maxDischargeDepth := 9) [zipIdx_map', eraseIdx_map', tail_map', drop_map', take_map', -List.map_tail, -List.map_drop, -List.map_take, -getElem?_pos, -getElem?_neg, -Int.natCast_shiftRight, -Nat.and_one_is_mod, -Int.natCast_pow, -Nat.one_and_eq_mod_two]) (by simp (maxDischargeDepth := 9) [zipIdx_map', eraseIdx_map', tail_map', drop_map', take_map', -List.map_tail, -List.map_drop, -List.map_take, -getElem?_pos, -getElem?_neg, -Int.natCast_shiftRight, -Nat.and_one_is_mod, -Int.natCast_pow, -Nat.one_and_eq_mod_two, tupN])]
    · simp (maxDischargeDepth := 9) [zipIdx_map', eraseIdx_map', tail_map', drop_map', take_map', -List.map_tail, -List.map_drop, -List.map_take, -getElem?_pos, -getElem?_neg, -Int.natCast_shiftRight, -Nat.and_one_is_mod, -Int.natCast_pow, -Nat.one_and_eq_mod_two, List.map_map, Function.comp]
    · intro row hr
      obtain ⟨hrl, hr6⟩ := h8 row hr
      have hA := opT (xs := List.map (fun x : Nat => PyData.int (x : Int)) row) (ys := [.int it]) (by simp; omega)
      have ha := bi_all (fun x : Nat => nearN fs it x) row
      have hc : compE (.nm 4) [4] [.val (.tuple (List.map (fun x : Nat => PyData.int (x : Int)) row))] [.tuple (List.map (fun x : Nat => PyData.int (x : Int)) row)] (evC ⟨callP k81_P n (k+2), k81_P.G, k81_P.io, k81_P.ff⟩ []) (evE ⟨callP k81_P n (k+2), k81_P.G, k81_P.io, k81_P.ff⟩ (.call "stand_together" [.var 0, .var 2, .var 4])) (List.map (fun x : Nat => PyData.int (x : Int)) row) [.sh (.tuple (List.map (fun x : Nat => PyData.int (x : Int)) fs)), .sh (.list (rows.map tupN)), .sh (.int it), .sh (.tuple (List.map (fun x : Nat => PyData.int (x : Int)) row)), .un, .un] = .ok (row.map fun y => PyData.bool (nearN fs it y)) [.sh (.tuple (List.map (fun x : Nat => PyData.int (x : Int)) fs)), .sh (.list (rows.map tupN)), .sh (.int it), .sh (.tuple (List.map (fun x : Nat => PyData.int (x : Int)) row)), .un, .un] := by
        rw [compE_eq (fun _ => true) (fun y : Nat => PyData.bool (nearN fs it y)) (by simp (maxDischargeDepth := 9) [zipIdx_map', eraseIdx_map', tail_map', drop_map', take_map', -List.map_tail, -List.map_drop, -List.map_take, -getElem?_pos, -getElem?_neg, -Int.natCast_shiftRight, -Nat.and_one_is_mod, -Int.natCast_pow, -Nat.one_and_eq_mod_two]) (by simp (maxDischargeDepth := 9) [zipIdx_map', eraseIdx_map', tail_map', drop_map', take_map', -List.map_tail, -List.map_drop, -List.map_take, -getElem?_pos, -getElem?_neg, -Int.natCast_shiftRight, -Nat.and_one_is_mod, -Int.natCast_pow, -Nat.one_and_eq_mod_two]) (by simp (maxDischargeDepth := 9) [zipIdx_map', eraseIdx_map', tail_map', drop_map', take_map', -List.map_tail, -List.map_drop, -List.map_take, -getElem?_pos, -getElem?_neg, -Int.natCast_shiftRight, -Nat.and_one_is_mod, -Int.natCast_pow, -Nat.one_and_eq_mod_two])]
        · rw [filter_tt]
        · intro y hy
          have e := near_sp (n := n) k fs it y (by omega) (by have := hr6 y hy; omega)
          refine ⟨_, rfl, ?_⟩
          simp (maxDischargeDepth := 9) [zipIdx_map', eraseIdx_map', tail_map', drop_map', take_map', -List.map_tail, -List.map_drop, -List.map_take, -getElem?_pos, -getElem?_neg, -Int.natCast_shiftRight, -Nat.and_one_is_mod, -Int.natCast_pow, -Nat.one_and_eq_mod_two, e]
      refine ⟨_, rfl, ?_⟩
      cases hcc : row.all fun x => nearN fs it x with
      | true => rw [hcc] at ha; simp (maxDischargeDepth := 9) [zipIdx_map', eraseIdx_map', tail_map', drop_map', take_map', -List.map_tail, -List.map_drop, -List.map_take, -getElem?_pos, -getElem?_neg, -Int.natCast_shiftRight, -Nat.and_one_is_mod, -Int.natCast_pow, -Nat.one_and_eq_mod_two, tupN, hc, ha, hA, hsh]
      | false => rw [hcc] at ha; simp (maxDischargeDepth := 9) [zipIdx_map', eraseIdx_map', tail_map', drop_map', take_map', -List.map_tail, -List.map_drop, -List.map_take, -getElem?_pos, -getElem?_neg, -Int.natCast_shiftRight, -Nat.and_one_is_mod, -Int.natCast_pow, -Nat.one_and_eq_mod_two, tupN, hc, ha, hA, hsh]
  have hB := opL (xs := rows.map tupN) (ys := ((rows.filter fun row => row.all fun x => nearN fs it x).map fun row => row ++ [it]).map tupN) (by
    have := List.length_filter_le (fun row : List Nat => row.all fun x => nearN fs it x) rows
    simp only [List.length_map]
    omega)
  rw [someS, List.map_append]
  rw [evSs_cons', evS_asg, evE_op, show evA ⟨callP k81_P n (k+2), k81_P.G, k81_P.io, k81_P.ff⟩ (.var 1) [.sh (.tuple (List.map (fun x : Nat => PyData.int (x : Int)) fs)), .sh (.list (rows.map tupN)), .sh (.int it), .un, .un, .un] = .ok (.val (.list (rows.map tupN))) [.sh (.tuple (List.map (fun x : Nat => PyData.int (x : Int)) fs)), .sh (.list (rows.map tupN)), .sh (.int it), .un, .un, .un] from by simp (maxDischargeDepth := 9) [zipIdx_map', eraseIdx_map', tail_map', drop_map', take_map', -List.map_tail, -List.map_drop, -List.map_take, -getElem?_pos, -getElem?_neg, -Int.natCast_shiftRight, -Nat.and_one_is_mod, -Int.natCast_pow, -Nat.one_and_eq_mod_two], bd_ok, evA_comp, ev]
  generalize ((rows.filter fun row => row.all fun x => nearN fs it x).map fun row => row ++ [it]).map tupN = B at *
  generalize rows.map tupN = A at *
  simp (maxDischargeDepth := 9) [zipIdx_map', eraseIdx_map', tail_map', drop_map', take_map', -List.map_tail, -List.map_drop, -List.map_take, -getElem?_pos, -getElem?_neg, -Int.natCast_shiftRight, -Nat.and_one_is_mod, -Int.natCast_pow, -Nat.one_and_eq_mod_two, hB]
theorem best_ne {rows : List (List Nat)} (h : rows ≠ []) : ∃ row rs, rows.filter (fun r => r.length == bestL rows) = row :: rs := by
  obtain ⟨r, hr, e⟩ := List.mem_map.mp (maxN_mem (xs := rows.map List.length) (by intro e; rw [List.map_eq_nil_iff] at e; exact h e))
  have : r ∈ rows.filter (fun r => r.length == bestL rows) := List.mem_filter.mpr ⟨hr, by rw [bestL, ← e]; simp⟩
  cases hL : rows.filter (fun r => r.length == bestL rows) with
  | nil => rw [hL] at this; cases this
  | cons y q => exact ⟨y, q, rfl⟩
theorem lot_sp (k : Nat) (fs : List Nat) (hF : Fam fs) : ∃ row, row ∈ lotR fs ∧ row.length = bestL (lotR fs) ∧ callP k81_P n (k+5) "greatest_lot" [.tuple (List.map (fun x : Nat => PyData.int (x : Int)) fs)] = .ok (.tuple [.int (bestL (lotR fs) : Nat), tupN row]) [] := by
  have ep := ptt_sp (n := n) (k+1) fs
  have hne : lotR fs ≠ [] := some_ne _ _ _ (by simp)
  obtain ⟨row, rs, er⟩ := best_ne hne
  have hm : row ∈ (lotR fs).filter (fun r => r.length == bestL (lotR fs)) := by rw [er]; simp
  obtain ⟨hm1, hm2⟩ := List.mem_filter.mp hm
  refine ⟨row, hm1, by simpa using hm2, ?_⟩
  rw [C_greatest_lot]
  refine fin_PO ?_
  refine PO_steps 2 (ρ1 := [.sh (.tuple (List.map (fun x : Nat => PyData.int (x : Int)) fs)), .sh (.list ([[]].map tupN)), .un, .un, .un, .un]) (by simp (maxDischargeDepth := 9) [zipIdx_map', eraseIdx_map', tail_map', drop_map', take_map', -List.map_tail, -List.map_drop, -List.map_take, -getElem?_pos, -getElem?_neg, -Int.natCast_shiftRight, -Nat.and_one_is_mod, -Int.natCast_pow, -Nat.one_and_eq_mod_two, k81_greatest_lot, hF, tupN]) ?_
  refine PO_for1 (xs := pin (uni fs)) (g := fun x : Nat => PyData.int (x : Int)) (fun pre ρ => ∃ o2, ρ = [.sh (.tuple (List.map (fun x : Nat => PyData.int (x : Int)) fs)), .sh (.list ((pre.foldl (someS (nearN fs)) [[]]).map tupN)), jn o2, .un, .un, .un]) (d := .list (List.map (fun x : Nat => PyData.int (x : Int)) (pin (uni fs)))) (by simp (maxDischargeDepth := 9) [zipIdx_map', eraseIdx_map', tail_map', drop_map', take_map', -List.map_tail, -List.map_drop, -List.map_take, -getElem?_pos, -getElem?_neg, -Int.natCast_shiftRight, -Nat.and_one_is_mod, -Int.natCast_pow, -Nat.one_and_eq_mod_two, ep]) rfl (by simp (maxDischargeDepth := 9) [zipIdx_map', eraseIdx_map', tail_map', drop_map', take_map', -List.map_tail, -List.map_drop, -List.map_take, -getElem?_pos, -getElem?_neg, -Int.natCast_shiftRight, -Nat.and_one_is_mod, -Int.natCast_pow, -Nat.one_and_eq_mod_two]) ⟨none, rfl⟩ ?_ ?_
  · rintro p x q hq ρ ⟨o2, rfl⟩
    obtain ⟨h1, h2⟩ := rows_sz (nearN fs) (uni fs) p (x :: q) hq
    have hx6 := (mem_pin.mp (show x ∈ pin (uni fs) by rw [hq]; simp)).1
    refine ⟨_, rfl, PO_end (lot_step (n := n) (k+2) fs _ x hx6 h1 h2) ⟨some (.int x), ?_⟩⟩
    rw [List.foldl_append]
    rfl
  · rintro ρ ⟨o2, rfl⟩
    rw [show (pin (uni fs)).foldl (someS (nearN fs)) [[]] = lotR fs from rfl]
    have hb := bi_max (fun r : List Nat => r.length) (lotR fs) hne
    have hb' : biD .max [.list ((lotR fs).map fun a : List Nat => PyData.int ((a.length : Nat) : Int))] = .ok (.int (bestL (lotR fs))) := hb
    have hsh : ((lotR fs).all fun a => shap 98 (tupN a)) = true := by rw [List.all_eq_true]; intro a _; simp [tupN]
    have e1 : evS ⟨callP k81_P n (k+4), k81_P.G, k81_P.io, k81_P.ff⟩ n [] false (.asg 5 (.bi .max [.comp (.bi .len [.var 3]) (.nm 3) .seq [.var 1] [] [3]])) [.sh (.tuple (List.map (fun x : Nat => PyData.int (x : Int)) fs)), .sh (.list ((lotR fs).map tupN)), jn o2, .un, .un, .un] = .nx [.sh (.tuple (List.map (fun x : Nat => PyData.int (x : Int)) fs)), .sh (.list ((lotR fs).map tupN)), jn o2, .un, .un, .sh (.int (bestL (lotR fs)))] := by
      simp (maxDischargeDepth := 9) [zipIdx_map', eraseIdx_map', tail_map', drop_map', take_map', -List.map_tail, -List.map_drop, -List.map_take, -getElem?_pos, -getElem?_neg, -Int.natCast_shiftRight, -Nat.and_one_is_mod, -Int.natCast_pow, -Nat.one_and_eq_mod_two]
      rw [compE_eq (fun _ => true) (fun r : List Nat => PyData.int (r.length : Nat)) (by simp (maxDischargeDepth := 9) [zipIdx_map', eraseIdx_map', tail_map', drop_map', take_map', -List.map_tail, -List.map_drop, -List.map_take, -getElem?_pos, -getElem?_neg, -Int.natCast_shiftRight, -Nat.and_one_is_mod, -Int.natCast_pow, -Nat.one_and_eq_mod_two]) (by simp (maxDischargeDepth := 9) [zipIdx_map', eraseIdx_map', tail_map', drop_map', take_map', -List.map_tail, -List.map_drop, -List.map_take, -getElem?_pos, -getElem?_neg, -Int.natCast_shiftRight, -Nat.and_one_is_mod, -Int.natCast_pow, -Nat.one_and_eq_mod_two]) (by simp (maxDischargeDepth := 9) [zipIdx_map', eraseIdx_map', tail_map', drop_map', take_map', -List.map_tail, -List.map_drop, -List.map_take, -getElem?_pos, -getElem?_neg, -Int.natCast_shiftRight, -Nat.and_one_is_mod, -Int.natCast_pow, -Nat.one_and_eq_mod_two])]
      · simp (maxDischargeDepth := 9) [zipIdx_map', eraseIdx_map', tail_map', drop_map', take_map', -List.map_tail, -List.map_drop, -List.map_take, -getElem?_pos, -getElem?_neg, -Int.natCast_shiftRight, -Nat.and_one_is_mod, -Int.natCast_pow, -Nat.one_and_eq_mod_two, hb']
      · intro a ha
        refine ⟨_, rfl, ?_⟩
        simp (maxDischargeDepth := 9) [zipIdx_map', eraseIdx_map', tail_map', drop_map', take_map', -List.map_tail, -List.map_drop, -List.map_take, -getElem?_pos, -getElem?_neg, -Int.natCast_shiftRight, -Nat.and_one_is_mod, -Int.natCast_pow, -Nat.one_and_eq_mod_two, tupN, hsh]
    refine PO_step e1 ?_
    refine PO_last (ρ1 := [.sh (.tuple (List.map (fun x : Nat => PyData.int (x : Int)) fs)), .sh (.list ((lotR fs).map tupN)), jn o2, .un, .un, .sh (.int (bestL (lotR fs)))]) ?_ rfl
    simp (maxDischargeDepth := 9) [zipIdx_map', eraseIdx_map', tail_map', drop_map', take_map', -List.map_tail, -List.map_drop, -List.map_take, -getElem?_pos, -getElem?_neg, -Int.natCast_shiftRight, -Nat.and_one_is_mod, -Int.natCast_pow, -Nat.one_and_eq_mod_two]
    rw [compE_eq (fun r : List Nat => r.length == bestL (lotR fs)) tupN (by simp (maxDischargeDepth := 9) [zipIdx_map', eraseIdx_map', tail_map', drop_map', take_map', -List.map_tail, -List.map_drop, -List.map_take, -getElem?_pos, -getElem?_neg, -Int.natCast_shiftRight, -Nat.and_one_is_mod, -Int.natCast_pow, -Nat.one_and_eq_mod_two]) (by simp (maxDischargeDepth := 9) [zipIdx_map', eraseIdx_map', tail_map', drop_map', take_map', -List.map_tail, -List.map_drop, -List.map_take, -getElem?_pos, -getElem?_neg, -Int.natCast_shiftRight, -Nat.and_one_is_mod, -Int.natCast_pow, -Nat.one_and_eq_mod_two]) (by simp (maxDischargeDepth := 9) [zipIdx_map', eraseIdx_map', tail_map', drop_map', take_map', -List.map_tail, -List.map_drop, -List.map_take, -getElem?_pos, -getElem?_neg, -Int.natCast_shiftRight, -Nat.and_one_is_mod, -Int.natCast_pow, -Nat.one_and_eq_mod_two])]
    · rw [er]
      simp (maxDischargeDepth := 9) [zipIdx_map', eraseIdx_map', tail_map', drop_map', take_map', -List.map_tail, -List.map_drop, -List.map_take, -getElem?_pos, -getElem?_neg, -Int.natCast_shiftRight, -Nat.and_one_is_mod, -Int.natCast_pow, -Nat.one_and_eq_mod_two]
    · intro a ha
      refine ⟨_, rfl, ?_⟩
      simp (maxDischargeDepth := 9) [zipIdx_map', eraseIdx_map', tail_map', drop_map', take_map', -List.map_tail, -List.map_drop, -List.map_take, -getElem?_pos, -getElem?_neg, -Int.natCast_shiftRight, -Nat.and_one_is_mod, -Int.natCast_pow, -Nat.one_and_eq_mod_two, tupN, hsh]

end S81

end
section
set_option linter.all false
set_option autoImplicit false
set_option maxRecDepth 100000
set_option Elab.async false
namespace S81
open PySem JK JK.JKS
variable {n : Nat}
theorem all_some : allS = someS fun _ _ => true := by
  funext rows it
  rw [allS, someS, List.filter_eq_self.mpr (fun a _ => by simp)]
def setsR (fs : List Nat) : List (List Nat) := (pin (uni fs)).foldl allS [[]]
theorem all_sz (u : Nat) (pre q : List Nat) (h : pin u = pre ++ q) : (pre.foldl allS [[]]).length ≤ 64 ∧ ∀ r ∈ pre.foldl allS [[]], r.length ≤ pre.length ∧ ∀ x ∈ r, x ∈ pin u := by
  have h6 : (pin u).length ≤ 6 := size_le u
  have hp : pre.length ≤ 6 := by rw [h, List.length_append] at h6; omega
  rw [all_some]
  have h1 := some_lens (fun _ _ => true) pre [[]]
  have h2 : 2 ^ pre.length ≤ 2 ^ 6 := Nat.pow_le_pow_right (by decide) hp
  have h3 := some_mem (fun _ _ => true) pre [[]] 0 (fun x => x ∈ pin u) (fun r hr => by
    have : r = [] := by simpa using hr
    subst this; simp) (fun x hx => by rw [h]; simp [hx])
  refine ⟨?_, fun r hr => ?_⟩
  · simp at h1; omega
  · have := h3 r hr
    exact ⟨by omega, this.2⟩
theorem all_nodup : ∀ (l : List Nat) (rows : List (List Nat)), l.Nodup → (∀ r ∈ rows, r.Nodup ∧ ∀ x ∈ r, x ∉ l) → ∀ r ∈ l.foldl allS rows, r.Nodup
  | [], rows, _, h => fun r hr => (h r hr).1
  | x :: l, rows, hn, h => by
    obtain ⟨hx, hl⟩ := List.nodup_cons.mp hn
    refine all_nodup l (allS rows x) hl fun r hr => ?_
    rcases List.mem_append.mp hr with hr | hr
    · exact ⟨(h r hr).1, fun y hy hm => (h r hr).2 y hy (by simp [hm])⟩
    · obtain ⟨q, hq, rfl⟩ := List.mem_map.mp hr
      obtain ⟨h1, h2⟩ := h q hq
      refine ⟨List.nodup_append.mpr ⟨h1, by simp, fun a ha b hb => ?_⟩, fun y hy hm => ?_⟩
      · have : b = x := by simpa using hb
        subst this
        intro e
        subst e
        exact h2 a ha (by simp)
      · rcases List.mem_append.mp hy with hy | hy
        · exact h2 y hy (by simp [hm])
        · have : y = x := by simpa using hy
          exact hx (this ▸ hm)
theorem sets_nodup (fs : List Nat) : ∀ r ∈ setsR fs, r.Nodup := all_nodup _ _ ((pin_asc _).imp fun h => Nat.ne_of_lt h) fun r hr => by
  have : r = [] := by simpa using hr
  subst this; simp
theorem lsets_sp (k : Nat) (fs : List Nat) : callP k81_P n (k+1) "_law_sets" [.list (List.map (fun x : Nat => PyData.int (x : Int)) (pin (uni fs)))] = .ok (.list ((setsR fs).map tupN)) [] := by
  rw [C__law_sets]
  refine fin_PO ?_
  refine PO_steps 1 (ρ1 := [.sh (.list (List.map (fun x : Nat => PyData.int (x : Int)) (pin (uni fs)))), .sh (.list ([[]].map tupN)), .un, .un]) (by simp (maxDischargeDepth := 9) [zipIdx_map', eraseIdx_map', tail_map', drop_map', take_map', -List.map_tail, -List.map_drop, -List.map_take, -getElem?_pos, -getElem?_neg, -Int.natCast_shiftRight, -Nat.and_one_is_mod, -Int.natCast_pow, -Nat.one_and_eq_mod_two, k81_law_sets, tupN]) ?_
  refine PO_for1 (xs := pin (uni fs)) (g := fun x : Nat => PyData.int (x : Int)) (fun pre ρ => ∃ o2, ρ = [.sh (.list (List.map (fun x : Nat => PyData.int (x : Int)) (pin (uni fs)))), .sh (.list ((pre.foldl allS [[]]).map tupN)), jn o2, .un]) (d := .list (List.map (fun x : Nat => PyData.int (x : Int)) (pin (uni fs)))) (by simp (maxDischargeDepth := 9) [zipIdx_map', eraseIdx_map', tail_map', drop_map', take_map', -List.map_tail, -List.map_drop, -List.map_take, -getElem?_pos, -getElem?_neg, -Int.natCast_shiftRight, -Nat.and_one_is_mod, -Int.natCast_pow, -Nat.one_and_eq_mod_two]) rfl (by simp (maxDischargeDepth := 9) [zipIdx_map', eraseIdx_map', tail_map', drop_map', take_map', -List.map_tail, -List.map_drop, -List.map_take, -getElem?_pos, -getElem?_neg, -Int.natCast_shiftRight, -Nat.and_one_is_mod, -Int.natCast_pow, -Nat.one_and_eq_mod_two]) ⟨none, rfl⟩ ?_ ?_
  · rintro p x q hq ρ ⟨o2, rfl⟩
    obtain ⟨h1, h2⟩ := all_sz (uni fs) p (x :: q) hq
    have hpl : p.length ≤ 6 := by have := size_le (uni fs); rw [size] at this; rw [hq, List.length_append] at this; omega
    refine ⟨[.sh (.list (List.map (fun x : Nat => PyData.int (x : Int)) (pin (uni fs)))), .sh (.list ((p.foldl allS [[]]).map tupN)), .sh (.int x), .un], rfl, PO_end (ρ1 := [.sh (.list (List.map (fun x : Nat => PyData.int (x : Int)) (pin (uni fs)))), .sh (.list (((p ++ [x]).foldl allS [[]]).map tupN)), .sh (.int x), .un]) ?_ ⟨some (.int x), rfl⟩⟩
    rw [List.foldl_append]
    generalize p.foldl allS [[]] = rows at h1 h2 ⊢
    have hsh : (rows.all fun a => shap 98 (tupN a)) = true := by rw [List.all_eq_true]; intro a _; simp [tupN]
    have ev : evE ⟨callP k81_P n k, k81_P.G, k81_P.io, k81_P.ff⟩ (.comp (.op .add (.var 3) (.tup [.var 2])) (.nm 3) .seq [.var 1] [] [3]) [.sh (.list (List.map (fun x : Nat => PyData.int (x : Int)) (pin (uni fs)))), .sh (.list (rows.map tupN)), .sh (.int x), .un] = .ok (.list ((rows.map fun row => row ++ [x]).map tupN)) [.sh (.list (List.map (fun x : Nat => PyData.int (x : Int)) (pin (uni fs)))), .sh (.list (rows.map tupN)), .sh (.int x), .un] := by
      simp (maxDischargeDepth := 9) [zipIdx_map', eraseIdx_map', tail_map', drop_map', take_map', -List.map_tail, -List.map_drop, -List.map_take, -getElem?_pos, -getElem?_neg, -Int.natCast_shiftRight, -Nat.and_one_is_mod, -Int.natCast_pow, -Nat.one_and_eq_mod_two]
      rw [compE_eq (fun _ => true) (fun row : List Nat => tupN (row ++ [x])) (by simp (maxDischargeDepth := 9) [zipIdx_map', eraseIdx_map', tail_map', drop_map', take_map', -List.map_tail, -List.map_drop, -List.map_take, -getElem?_pos, -getElem?_neg, -Int.natCast_shiftRight, -Nat.and_one_is_mod, -Int.natCast_pow, -Nat.one_and_eq_mod_two]) (by simp (maxDischargeDepth := 9) [zipIdx_map', eraseIdx_map', tail_map', drop_map', take_map', -List.map_tail, -List.map_drop, -List.map_take, -getElem?_pos, -getElem?_neg, -Int.natCast_shiftRight, -Nat.and_one_is_mod, -Int.natCast_pow, -Nat.one_and_eq_mod_two]) (by simp (maxDischargeDepth := 9) [zipIdx_map', eraseIdx_map', tail_map', drop_map', take_map', -List.map_tail, -List.map_drop, -List.map_take, -getElem?_pos, -getElem?_neg, -Int.natCast_shiftRight, -Nat.and_one_is_mod, -Int.natCast_pow, -Nat.one_and_eq_mod_two, tupN])]
      · rw [filter_tt]
        simp (maxDischargeDepth := 9) [zipIdx_map', eraseIdx_map', tail_map', drop_map', take_map', -List.map_tail, -List.map_drop, -List.map_take, -getElem?_pos, -getElem?_neg, -Int.natCast_shiftRight, -Nat.and_one_is_mod, -Int.natCast_pow, -Nat.one_and_eq_mod_two, List.map_map, Function.comp]
      · intro row hr
        have hrl := (h2 row hr).1
        have hA := opT (xs := List.map (fun x : Nat => PyData.int (x : Int)) row) (ys := [.int x]) (by simp; omega)
        refine ⟨_, rfl, ?_⟩
        simp (maxDischargeDepth := 9) [zipIdx_map', eraseIdx_map', tail_map', drop_map', take_map', -List.map_tail, -List.map_drop, -List.map_take, -getElem?_pos, -getElem?_neg, -Int.natCast_shiftRight, -Nat.and_one_is_mod, -Int.natCast_pow, -Nat.one_and_eq_mod_two, tupN, hA, hsh]
    have hB := opL (xs := rows.map tupN) (ys := (rows.map fun row => row ++ [x]).map tupN) (by simp only [List.length_map]; omega)
    rw [List.foldl_cons, List.foldl_nil, allS, List.map_append]
    rw [evSs_cons', evS_asg, evE_op, show evA ⟨callP k81_P n k, k81_P.G, k81_P.io, k81_P.ff⟩ (.var 1) [.sh (.list (List.map (fun x : Nat => PyData.int (x : Int)) (pin (uni fs)))), .sh (.list (rows.map tupN)), .sh (.int x), .un] = .ok (.val (.list (rows.map tupN))) [.sh (.list (List.map (fun x : Nat => PyData.int (x : Int)) (pin (uni fs)))), .sh (.list (rows.map tupN)), .sh (.int x), .un] from by simp (maxDischargeDepth := 9) [zipIdx_map', eraseIdx_map', tail_map', drop_map', take_map', -List.map_tail, -List.map_drop, -List.map_take, -getElem?_pos, -getElem?_neg, -Int.natCast_shiftRight, -Nat.and_one_is_mod, -Int.natCast_pow, -Nat.one_and_eq_mod_two], bd_ok, evA_comp, ev]
    generalize (rows.map fun row => row ++ [x]).map tupN = B at *
    generalize rows.map tupN = A at *
    simp (maxDischargeDepth := 9) [zipIdx_map', eraseIdx_map', tail_map', drop_map', take_map', -List.map_tail, -List.map_drop, -List.map_take, -getElem?_pos, -getElem?_neg, -Int.natCast_shiftRight, -Nat.and_one_is_mod, -Int.natCast_pow, -Nat.one_and_eq_mod_two, hB]
  · rintro ρ ⟨o2, rfl⟩
    exact PO_last (ρ1 := [.sh (.list (List.map (fun x : Nat => PyData.int (x : Int)) (pin (uni fs)))), .sh (.list ((setsR fs).map tupN)), jn o2, .un]) (by simp (maxDischargeDepth := 9) [zipIdx_map', eraseIdx_map', tail_map', drop_map', take_map', -List.map_tail, -List.map_drop, -List.map_take, -getElem?_pos, -getElem?_neg, -Int.natCast_shiftRight, -Nat.and_one_is_mod, -Int.natCast_pow, -Nat.one_and_eq_mod_two, setsR]) rfl

end S81

end
section
set_option linter.all false
set_option autoImplicit false
set_option maxRecDepth 100000
set_option Elab.async false
namespace S81
open PySem JK JK.JKS
variable {n : Nat}
/-- a row that holds no set -/
def freeR (fs row : List Nat) : Bool := !(fs.any fun s => s &&& orN row == s)
def cntF (fs : List Nat) (rows : List (List Nat)) (j : Nat) : Nat := ((rows.filter (freeR fs)).map List.length).count j
theorem cntF_snoc (fs : List Nat) (rows : List (List Nat)) (r : List Nat) (j : Nat) : cntF fs (rows ++ [r]) j = cntF fs rows j + if freeR fs r && r.length == j then 1 else 0 := by
  rw [cntF, cntF, List.filter_append, List.map_append, List.count_append]
  congr 1
  cases c : freeR fs r
  · simp [c]
  · simp [c, List.count_singleton]
theorem kern_step (C : Cfg) (fam pts s2 : Sl) (rows : List (List Nat)) (x : Nat) (h1 : rows.length ≤ 64) (h2 : ∀ r ∈ rows, r.length ≤ 6) : evSs C n [] false [.asg 3 (.op .add (.var 3) (.comp (.op .add (.var 5) (.tup [.var 4])) (.nm 5) .seq [.var 3] [] [5]))] [fam, pts, s2, .sh (.list (rows.map tupN)), .sh (.int x), .un, .un] =
    .nx [fam, pts, s2, .sh (.list ((allS rows x).map tupN)), .sh (.int x), .un, .un] := by
  have hsh : (rows.all fun a => shap 98 (tupN a)) = true := by rw [List.all_eq_true]; intro a _; simp [tupN]
  have ev : evE C (.comp (.op .add (.var 5) (.tup [.var 4])) (.nm 5) .seq [.var 3] [] [5]) [fam, pts, s2, .sh (.list (rows.map tupN)), .sh (.int x), .un, .un] = .ok (.list ((rows.map fun row => row ++ [x]).map tupN)) [fam, pts, s2, .sh (.list (rows.map tupN)), .sh (.int x), .un, .un] := by
    simp (maxDischargeDepth := 9) [zipIdx_map', eraseIdx_map', tail_map', drop_map', take_map', -List.map_tail, -List.map_drop, -List.map_take, -getElem?_pos, -getElem?_neg, -Int.natCast_shiftRight, -Nat.and_one_is_mod, -Int.natCast_pow, -Nat.one_and_eq_mod_two]
    rw [compE_eq (fun _ => true) (fun row : List Nat => tupN (row ++ [x])) (by simp (maxDischargeDepth := 9) [zipIdx_map', eraseIdx_map', tail_map', drop_map', take_map', -List.map_tail, -List.map_drop, -List.map_take, -getElem?_pos, -getElem?_neg, -Int.natCast_shiftRight, -Nat.and_one_is_mod, -Int.natCast_pow, -Nat.one_and_eq_mod_two]) (by simp (maxDischargeDepth := 9) [zipIdx_map', eraseIdx_map', tail_map', drop_map', take_map', -List.map_tail, -List.map_drop, -List.map_take, -getElem?_pos, -getElem?_neg, -Int.natCast_shiftRight, -Nat.and_one_is_mod, -Int.natCast_pow, -Nat.one_and_eq_mod_two]) (by simp (maxDischargeDepth := 9) [zipIdx_map', eraseIdx_map', tail_map', drop_map', take_map', -List.map_tail, -List.map_drop, -List.map_take, -getElem?_pos, -getElem?_neg, -Int.natCast_shiftRight, -Nat.and_one_is_mod, -Int.natCast_pow, -Nat.one_and_eq_mod_two, tupN])]
    · rw [filter_tt]
      simp (maxDischargeDepth := 9) [zipIdx_map', eraseIdx_map', tail_map', drop_map', take_map', -List.map_tail, -List.map_drop, -List.map_take, -getElem?_pos, -getElem?_neg, -Int.natCast_shiftRight, -Nat.and_one_is_mod, -Int.natCast_pow, -Nat.one_and_eq_mod_two, List.map_map, Function.comp]
    · intro row hr
      have hrl := h2 row hr
      have hA := opT (xs := List.map (fun x : Nat => PyData.int (x : Int)) row) (ys := [.int x]) (by simp; omega)
      refine ⟨_, rfl, ?_⟩
      simp (maxDischargeDepth := 9) [zipIdx_map', eraseIdx_map', tail_map', drop_map', take_map', -List.map_tail, -List.map_drop, -List.map_take, -getElem?_pos, -getElem?_neg, -Int.natCast_shiftRight, -Nat.and_one_is_mod, -Int.natCast_pow, -Nat.one_and_eq_mod_two, tupN, hA, hsh]
  have hB := opL (xs := rows.map tupN) (ys := (rows.map fun row => row ++ [x]).map tupN) (by simp only [List.length_map]; omega)
  rw [allS, List.map_append]
  rw [evSs_cons', evS_asg, evE_op, show evA C (.var 3) [fam, pts, s2, .sh (.list (rows.map tupN)), .sh (.int x), .un, .un] = .ok (.val (.list (rows.map tupN))) [fam, pts, s2, .sh (.list (rows.map tupN)), .sh (.int x), .un, .un] from by simp (maxDischargeDepth := 9) [zipIdx_map', eraseIdx_map', tail_map', drop_map', take_map', -List.map_tail, -List.map_drop, -List.map_take, -getElem?_pos, -getElem?_neg, -Int.natCast_shiftRight, -Nat.and_one_is_mod, -Int.natCast_pow, -Nat.one_and_eq_mod_two], bd_ok, evA_comp, ev]
  generalize (rows.map fun row => row ++ [x]).map tupN = B at *
  generalize rows.map tupN = A at *
  simp (maxDischargeDepth := 9) [zipIdx_map', eraseIdx_map', tail_map', drop_map', take_map', -List.map_tail, -List.map_drop, -List.map_take, -getElem?_pos, -getElem?_neg, -Int.natCast_shiftRight, -Nat.and_one_is_mod, -Int.natCast_pow, -Nat.one_and_eq_mod_two, hB]
theorem rep_zero (m : Nat) (h : m ≤ 1000) : opD .mul (.list [.int 0]) (.int ((m : Nat) : Int)) = .ok (.list (List.map (fun x : Nat => PyData.int (x : Int)) ((List.range m).map fun _ => 0))) := by
  have h1 : m < 1000000 := by omega
  simp only [opD, Int.toNat_natCast]
  rw [if_pos (by simp [lim]; omega)]
  simp [List.flatten_replicate_singleton, List.map_const']
theorem setofT_sp (k : Nat) (l : List Nat) (hl : ∀ x ∈ l, x ≤ 1000) : callP k81_P n (k+1) "set_of" [.tuple (List.map (fun x : Nat => PyData.int (x : Int)) l)] = .ok (.int (orN l)) [] := by
  have hs : shaps 99 (List.map (fun x : Nat => PyData.int (x : Int)) l) = true := by simp
  rw [C_set_of]
  refine fin_PO ?_
  refine PO_step (ρ1 := [.sh (.tuple (List.map (fun x : Nat => PyData.int (x : Int)) l)), .sh (.int 0), .un]) (by simp (maxDischargeDepth := 9) [zipIdx_map', eraseIdx_map', tail_map', drop_map', take_map', -List.map_tail, -List.map_drop, -List.map_take, -getElem?_pos, -getElem?_neg, -Int.natCast_shiftRight, -Nat.and_one_is_mod, -Int.natCast_pow, -Nat.one_and_eq_mod_two]) ?_
  refine PO_for1 (xs := l) (g := fun x : Nat => PyData.int (x : Int)) (fun pre ρ => ∃ x2, ρ = [.sh (.tuple (List.map (fun x : Nat => PyData.int (x : Int)) l)), .sh (.int (orN pre)), x2]) (d := .tuple (List.map (fun x : Nat => PyData.int (x : Int)) l)) (by simp (maxDischargeDepth := 9) [zipIdx_map', eraseIdx_map', tail_map', drop_map', take_map', -List.map_tail, -List.map_drop, -List.map_take, -getElem?_pos, -getElem?_neg, -Int.natCast_shiftRight, -Nat.and_one_is_mod, -Int.natCast_pow, -Nat.one_and_eq_mod_two, orN]) rfl (by rw [shap_tuple, hs]) ⟨.un, rfl⟩ ?_ ?_
  · rintro p x q hq ρ ⟨x2, rfl⟩
    have hx : x ≤ 1000000 := by have := hl x (by rw [hq]; simp); omega
    refine ⟨_, rfl, PO_end (ρ1 := [.sh (.tuple (List.map (fun x : Nat => PyData.int (x : Int)) l)), .sh (.int (orN p ||| 2 ^ x : Nat)), .sh (.int x)]) (by simp (maxDischargeDepth := 9) [zipIdx_map', eraseIdx_map', tail_map', drop_map', take_map', -List.map_tail, -List.map_drop, -List.map_take, -getElem?_pos, -getElem?_neg, -Int.natCast_shiftRight, -Nat.and_one_is_mod, -Int.natCast_pow, -Nat.one_and_eq_mod_two, hx]) ⟨.sh (.int x), ?_⟩⟩
    rw [orN, orN, List.foldl_append]
    rfl
  · rintro ρ ⟨x2, rfl⟩
    exact PO_last (ρ1 := [.sh (.tuple (List.map (fun x : Nat => PyData.int (x : Int)) l)), .sh (.int (orN l)), x2]) (by simp (maxDischargeDepth := 9) [zipIdx_map', eraseIdx_map', tail_map', drop_map', take_map', -List.map_tail, -List.map_drop, -List.map_take, -getElem?_pos, -getElem?_neg, -Int.natCast_shiftRight, -Nat.and_one_is_mod, -Int.natCast_pow, -Nat.one_and_eq_mod_two]) rfl
theorem kern_sp (k : Nat) (fs : List Nat) (hF : Fam fs) : callP k81_P n (k+5) "kernel_counts" [.tuple (List.map (fun x : Nat => PyData.int (x : Int)) fs)] = .ok (.tuple (List.map (fun x : Nat => PyData.int (x : Int)) ((List.range ((pin (uni fs)).length + 1)).map (cntF fs (setsR fs))))) [] := by
  have ep := ptt_sp (n := n) (k+1) fs
  have h6 : (pin (uni fs)).length ≤ 6 := size_le (uni fs)
  have hz : opD .mul (.list [.int 0]) (.int (((pin (uni fs)).length : Int) + 1)) = .ok (.list (List.map (fun x : Nat => PyData.int (x : Int)) ((List.range ((pin (uni fs)).length + 1)).map (cntF fs [])))) := by
    rw [show cntF fs [] = fun _ => 0 from funext fun j => by simp [cntF]]
    exact rep_zero ((pin (uni fs)).length + 1) (by omega)
  rw [C_kernel_counts]
  refine fin_PO ?_
  refine PO_steps 4 (ρ1 := [.sh (.tuple (List.map (fun x : Nat => PyData.int (x : Int)) fs)), .sh (.list (List.map (fun x : Nat => PyData.int (x : Int)) (pin (uni fs)))), .ow (.list (List.map (fun x : Nat => PyData.int (x : Int)) ((List.range ((pin (uni fs)).length + 1)).map (cntF fs [])))), .sh (.list ([[]].map tupN)), .un, .un, .un]) (by
      generalize (List.range ((pin (uni fs)).length + 1)).map (cntF fs []) = Z at hz ⊢
      simp (maxDischargeDepth := 9) [zipIdx_map', eraseIdx_map', tail_map', drop_map', take_map', -List.map_tail, -List.map_drop, -List.map_take, -getElem?_pos, -getElem?_neg, -Int.natCast_shiftRight, -Nat.and_one_is_mod, -Int.natCast_pow, -Nat.one_and_eq_mod_two, k81_kernel_counts, freshE, hF, ep, tupN, hz]) ?_
  refine PO_for1 (xs := pin (uni fs)) (g := fun x : Nat => PyData.int (x : Int)) (fun pre ρ => ∃ o4, ρ = [.sh (.tuple (List.map (fun x : Nat => PyData.int (x : Int)) fs)), .sh (.list (List.map (fun x : Nat => PyData.int (x : Int)) (pin (uni fs)))), .ow (.list (List.map (fun x : Nat => PyData.int (x : Int)) ((List.range ((pin (uni fs)).length + 1)).map (cntF fs [])))), .sh (.list ((pre.foldl allS [[]]).map tupN)), jn o4, .un, .un]) (d := .list (List.map (fun x : Nat => PyData.int (x : Int)) (pin (uni fs)))) (by simp (maxDischargeDepth := 9) [zipIdx_map', eraseIdx_map', tail_map', drop_map', take_map', -List.map_tail, -List.map_drop, -List.map_take, -getElem?_pos, -getElem?_neg, -Int.natCast_shiftRight, -Nat.and_one_is_mod, -Int.natCast_pow, -Nat.one_and_eq_mod_two]) rfl (by simp (maxDischargeDepth := 9) [zipIdx_map', eraseIdx_map', tail_map', drop_map', take_map', -List.map_tail, -List.map_drop, -List.map_take, -getElem?_pos, -getElem?_neg, -Int.natCast_shiftRight, -Nat.and_one_is_mod, -Int.natCast_pow, -Nat.one_and_eq_mod_two]) ⟨none, rfl⟩ ?_ ?_
  · rintro p x q hq ρ ⟨o4, rfl⟩
    obtain ⟨h1, h2⟩ := all_sz (uni fs) p (x :: q) hq
    have hpl : p.length ≤ 6 := by rw [hq, List.length_append] at h6; omega
    refine ⟨_, rfl, PO_end (kern_step (n := n) _ _ _ _ (p.foldl allS [[]]) x h1 fun r hr => by have := (h2 r hr).1; omega) ⟨some (.int x), ?_⟩⟩
    rw [List.foldl_append]
    rfl
  · rintro ρ ⟨o4, rfl⟩
    rw [show (pin (uni fs)).foldl allS [[]] = setsR fs from rfl]
    obtain ⟨h1, h2⟩ := all_sz (uni fs) (pin (uni fs)) [] (by simp)
    rw [show (pin (uni fs)).foldl allS [[]] = setsR fs from rfl] at h1 h2
    refine PO_for1 (xs := setsR fs) (g := tupN) (fun pre ρ => ∃ o5, ρ = [.sh (.tuple (List.map (fun x : Nat => PyData.int (x : Int)) fs)), .sh (.list (List.map (fun x : Nat => PyData.int (x : Int)) (pin (uni fs)))), .ow (.list (List.map (fun x : Nat => PyData.int (x : Int)) ((List.range ((pin (uni fs)).length + 1)).map (cntF fs pre)))), .sh (.list ((setsR fs).map tupN)), jn o4, jn o5, .un]) (d := .list ((setsR fs).map tupN)) (by simp (maxDischargeDepth := 9) [zipIdx_map', eraseIdx_map', tail_map', drop_map', take_map', -List.map_tail, -List.map_drop, -List.map_take, -getElem?_pos, -getElem?_neg, -Int.natCast_shiftRight, -Nat.and_one_is_mod, -Int.natCast_pow, -Nat.one_and_eq_mod_two]) rfl (tups_shap _) ⟨none, rfl⟩ ?_ ?_
    · rintro p r q hq ρ ⟨o5, rfl⟩
      have hr : r ∈ setsR fs := by rw [hq]; simp
      obtain ⟨hrl, hr6⟩ := h2 r hr
      refine ⟨[.sh (.tuple (List.map (fun x : Nat => PyData.int (x : Int)) fs)), .sh (.list (List.map (fun x : Nat => PyData.int (x : Int)) (pin (uni fs)))), .ow (.list (List.map (fun x : Nat => PyData.int (x : Int)) ((List.range ((pin (uni fs)).length + 1)).map (cntF fs p)))), .sh (.list ((setsR fs).map tupN)), jn o4, .sh (tupN r), .un], rfl, PO_end (ρ1 := [.sh (.tuple (List.map (fun x : Nat => PyData.int (x : Int)) fs)), .sh (.list (List.map (fun x : Nat => PyData.int (x : Int)) (pin (uni fs)))), .ow (.list (List.map (fun x : Nat => PyData.int (x : Int)) ((List.range ((pin (uni fs)).length + 1)).map (cntF fs (p ++ [r]))))), .sh (.list ((setsR fs).map tupN)), jn o4, .sh (tupN r), .un]) ?_ ⟨some (tupN r), rfl⟩⟩
      have hfr : freeR fs r = !(fs.any fun s => s &&& orN r == s) := rfl
      have es := setofT_sp (n := n) (k+3) r (fun x hx => by have := (mem_pin.mp (hr6 x hx)).1; omega)
      have hc : compE (.nm 6) [6] [.val (.tuple (List.map (fun x : Nat => PyData.int (x : Int)) fs))] [.tuple (List.map (fun x : Nat => PyData.int (x : Int)) fs)] (evC ⟨callP k81_P n (k+4), k81_P.G, k81_P.io, k81_P.ff⟩ []) (evE ⟨callP k81_P n (k+4), k81_P.G, k81_P.io, k81_P.ff⟩ (.call "is_within" [.var 6, .call "set_of" [.var 5]])) (List.map (fun x : Nat => PyData.int (x : Int)) fs) [.sh (.tuple (List.map (fun x : Nat => PyData.int (x : Int)) fs)), .sh (.list (List.map (fun x : Nat => PyData.int (x : Int)) (pin (uni fs)))), .ow (.list (List.map (fun x : Nat => PyData.int (x : Int)) ((List.range ((pin (uni fs)).length + 1)).map (cntF fs p)))), .sh (.list ((setsR fs).map tupN)), jn o4, .sh (.tuple (List.map (fun x : Nat => PyData.int (x : Int)) r)), .un] = .ok (fs.map fun s => PyData.bool (s &&& orN r == s)) [.sh (.tuple (List.map (fun x : Nat => PyData.int (x : Int)) fs)), .sh (.list (List.map (fun x : Nat => PyData.int (x : Int)) (pin (uni fs)))), .ow (.list (List.map (fun x : Nat => PyData.int (x : Int)) ((List.range ((pin (uni fs)).length + 1)).map (cntF fs p)))), .sh (.list ((setsR fs).map tupN)), jn o4, .sh (.tuple (List.map (fun x : Nat => PyData.int (x : Int)) r)), .un] := by
        rw [compE_eq (fun _ => true) (fun s : Nat => PyData.bool (s &&& orN r == s)) (by simp (maxDischargeDepth := 9) [zipIdx_map', eraseIdx_map', tail_map', drop_map', take_map', -List.map_tail, -List.map_drop, -List.map_take, -getElem?_pos, -getElem?_neg, -Int.natCast_shiftRight, -Nat.and_one_is_mod, -Int.natCast_pow, -Nat.one_and_eq_mod_two]) (by simp (maxDischargeDepth := 9) [zipIdx_map', eraseIdx_map', tail_map', drop_map', take_map', -List.map_tail, -List.map_drop, -List.map_take, -getElem?_pos, -getElem?_neg, -Int.natCast_shiftRight, -Nat.and_one_is_mod, -Int.natCast_pow, -Nat.one_and_eq_mod_two]) (by simp (maxDischargeDepth := 9) [zipIdx_map', eraseIdx_map', tail_map', drop_map', take_map', -List.map_tail, -List.map_drop, -List.map_take, -getElem?_pos, -getElem?_neg, -Int.natCast_shiftRight, -Nat.and_one_is_mod, -Int.natCast_pow, -Nat.one_and_eq_mod_two])]
        · rw [filter_tt]
        · intro s hs
          refine ⟨_, rfl, ?_⟩
          simp (maxDischargeDepth := 9) [zipIdx_map', eraseIdx_map', tail_map', drop_map', take_map', -List.map_tail, -List.map_drop, -List.map_take, -getElem?_pos, -getElem?_neg, -Int.natCast_shiftRight, -Nat.and_one_is_mod, -Int.natCast_pow, -Nat.one_and_eq_mod_two, es]
      have ha := bi_any (fun s : Nat => s &&& orN r == s) fs
      have hj : r.length < (pin (uni fs)).length + 1 := by omega
      have hg : (List.map (fun x : Nat => PyData.int (x : Int)) ((List.range ((pin (uni fs)).length + 1)).map (cntF fs p)))[r.length]? = some (.int (cntF fs p r.length : Nat)) := by
        simp [hj]
      have hl2 : r.length < (List.map (fun x : Nat => PyData.int (x : Int)) ((List.range ((pin (uni fs)).length + 1)).map (cntF fs p))).length := by simp; omega
      have hs1 : freeR fs r = true → (List.map (fun x : Nat => PyData.int (x : Int)) ((List.range ((pin (uni fs)).length + 1)).map (cntF fs p))).set r.length (.int ((cntF fs p r.length : Nat) + 1)) = List.map (fun x : Nat => PyData.int (x : Int)) ((List.range ((pin (uni fs)).length + 1)).map (cntF fs (p ++ [r]))) := fun hf => by
        apply List.ext_getElem
        · simp
        · intro i h3 h4
          rw [List.getElem_set]
          simp only [List.getElem_map, List.getElem_range, cntF_snoc, hf, Bool.true_and, beq_iff_eq]
          by_cases c : r.length = i
          · subst c
            simp
          · simp [c]
      have hs0 : freeR fs r = false → (List.map (fun x : Nat => PyData.int (x : Int)) ((List.range ((pin (uni fs)).length + 1)).map (cntF fs p))) = List.map (fun x : Nat => PyData.int (x : Int)) ((List.range ((pin (uni fs)).length + 1)).map (cntF fs (p ++ [r]))) := fun hf => by
        rw [show (List.range ((pin (uni fs)).length + 1)).map (cntF fs p) = (List.range ((pin (uni fs)).length + 1)).map (cntF fs (p ++ [r])) from List.map_congr_left fun i _ => by rw [cntF_snoc, hf]; simp]
      generalize List.map (fun x : Nat => PyData.int (x : Int)) ((List.range ((pin (uni fs)).length + 1)).map (cntF fs p)) = CL at *
      generalize List.map (fun x : Nat => PyData.int (x : Int)) ((List.range ((pin (uni fs)).length + 1)).map (cntF fs (p ++ [r]))) = CM at *
      generalize (setsR fs).map tupN = SR at *
      cases hb : fs.any fun s => s &&& orN r == s with
      | true =>
        rw [hb] at hfr ha
        have := hs0 hfr
        subst this
        simp (maxDischargeDepth := 9) [zipIdx_map', eraseIdx_map', tail_map', drop_map', take_map', -List.map_tail, -List.map_drop, -List.map_take, -getElem?_pos, -getElem?_neg, -Int.natCast_shiftRight, -Nat.and_one_is_mod, -Int.natCast_pow, -Nat.one_and_eq_mod_two, tupN, hc, ha]
      | false =>
        rw [hb] at hfr ha
        have h9 := hs1 hfr
        simp (maxDischargeDepth := 9) [zipIdx_map', eraseIdx_map', tail_map', drop_map', take_map', -List.map_tail, -List.map_drop, -List.map_take, -getElem?_pos, -getElem?_neg, -Int.natCast_shiftRight, -Nat.and_one_is_mod, -Int.natCast_pow, -Nat.one_and_eq_mod_two, tupN, hc, ha, hg, hl2, h9]
    · rintro ρ ⟨o5, rfl⟩
      exact PO_last (ρ1 := [.sh (.tuple (List.map (fun x : Nat => PyData.int (x : Int)) fs)), .sh (.list (List.map (fun x : Nat => PyData.int (x : Int)) (pin (uni fs)))), .ow (.list (List.map (fun x : Nat => PyData.int (x : Int)) ((List.range ((pin (uni fs)).length + 1)).map (cntF fs (setsR fs))))), .sh (.list ((setsR fs).map tupN)), jn o4, jn o5, .un]) (by simp (maxDischargeDepth := 9) [zipIdx_map', eraseIdx_map', tail_map', drop_map', take_map', -List.map_tail, -List.map_drop, -List.map_take, -getElem?_pos, -getElem?_neg, -Int.natCast_shiftRight, -Nat.and_one_is_mod, -Int.natCast_pow, -Nat.one_and_eq_mod_two]) rfl

end S81

end
section
set_option linter.all false
set_option autoImplicit false
set_option maxRecDepth 100000
set_option Elab.async false
namespace S81
open PySem JK JK.JKS
variable {n : Nat}
theorem within_bit : ∀ x < 6, ∀ s < 64, (2 ^ x &&& s == 2 ^ x) = s.testBit x := by decide +kernel
/-- each set's points have their own colours -/
def ownB (pts row : List Nat) (it : Nat) : Bool := decide (seenN pts row it).Nodup
def ownR (fs pts row : List Nat) : Bool := fs.all (ownB pts row)
theorem nub_nd : ∀ l : List Nat, (nubN l).length < l.length ↔ ¬ l.Nodup := by
  intro l
  have h1 := len_nubN l
  constructor
  · intro h hn
    have := len_le_of_subset hn (l2 := nubN l) fun x hx => mem_nubN.mpr hx
    omega
  · intro h
    refine Classical.not_not.mp fun h2 => h ?_
    have h3 : (nubN l).length = l.length := by omega
    clear h h1 h2
    induction l with
    | nil => exact List.nodup_nil
    | cons x r ih =>
      by_cases c : x ∈ r
      · exfalso
        have h4 := len_le_of_subset (nubN_nodup (x :: r)) (l2 := nubN r) fun y hy => by
          have := mem_nubN.mp hy
          rcases List.mem_cons.mp this with rfl | h
          · exact mem_nubN.mpr c
          · exact mem_nubN.mpr h
        have h5 := len_nubN r
        rw [List.length_cons] at h3
        omega
      · refine List.nodup_cons.mpr ⟨c, ih ?_⟩
        have h4 := len_le_of_subset (nubN_nodup (x :: r)) (l2 := x :: nubN r) fun y hy => by
          have := mem_nubN.mp hy
          rcases List.mem_cons.mp this with rfl | h
          · simp
          · exact List.mem_cons_of_mem _ (mem_nubN.mpr h)
        have h5 := len_nubN r
        rw [List.length_cons] at h3 h4
        omega
theorem spoils_sp (k : Nat) (fs pts row : List Nat) (h64 : ∀ s ∈ fs, s < 64) (hp : ∀ x ∈ pts, x < 6) (h6 : pts.length ≤ 6) (hl : row.length = pts.length) : ∃ v, callP k81_P n (k+4) "spoils" [.tuple (List.map (fun x : Nat => PyData.int (x : Int)) fs), .str (Str.ofString "all"), .list (List.map (fun x : Nat => PyData.int (x : Int)) pts), .tuple (List.map (fun x : Nat => PyData.int (x : Int)) row)] = .ok v [] ∧ isNoneD v = ownR fs pts row := by
  have hsa : (Str.ofString "all" == Str.ofString "some") = false := by decide +kernel
  have hsb : PyData.strOk (Str.ofString "all") = true := by decide +kernel
  have hsc : PyData.strOk (Str.ofString "some") = true := by decide +kernel
  rw [C_spoils]
  refine fin_POe (Q := fun v => isNoneD v = ownR fs pts row) ?_
  refine PO_for1 (xs := fs) (g := fun x : Nat => PyData.int (x : Int)) (fun pre ρ => pre.all (ownB pts row) = true ∧ ∃ (o4 o5 : Option D), ρ = [.sh (.tuple (List.map (fun x : Nat => PyData.int (x : Int)) fs)), .sh (.str (Str.ofString "all")), .sh (.list (List.map (fun x : Nat => PyData.int (x : Int)) pts)), .sh (.tuple (List.map (fun x : Nat => PyData.int (x : Int)) row)), jn o4, jn o5, .un, .un]) (d := .tuple (List.map (fun x : Nat => PyData.int (x : Int)) fs)) (ρ0 := [.sh (.tuple (List.map (fun x : Nat => PyData.int (x : Int)) fs)), .sh (.str (Str.ofString "all")), .sh (.list (List.map (fun x : Nat => PyData.int (x : Int)) pts)), .sh (.tuple (List.map (fun x : Nat => PyData.int (x : Int)) row)), .un, .un, .un, .un]) (by simp (maxDischargeDepth := 9) [zipIdx_map', eraseIdx_map', tail_map', drop_map', take_map', -List.map_tail, -List.map_drop, -List.map_take, -getElem?_pos, -getElem?_neg, -Int.natCast_shiftRight, -Nat.and_one_is_mod, -Int.natCast_pow, -Nat.one_and_eq_mod_two]) rfl (by simp (maxDischargeDepth := 9) [zipIdx_map', eraseIdx_map', tail_map', drop_map', take_map', -List.map_tail, -List.map_drop, -List.map_take, -getElem?_pos, -getElem?_neg, -Int.natCast_shiftRight, -Nat.and_one_is_mod, -Int.natCast_pow, -Nat.one_and_eq_mod_two]) ⟨rfl, none, none, rfl⟩ ?_ ?_
  · rintro p it q hq ρ ⟨hall, o4, o5, rfl⟩
    have hit : it ∈ fs := by rw [hq]; simp
    have hit64 := h64 it hit
    have hs := seen_len pts row it
    have hs' : (seenN pts row it).length < 1000 := by omega
    have e1 : evE ⟨callP k81_P n (k+3), k81_P.G, k81_P.io, k81_P.ff⟩ (.comp (.sub (.var 3) (.var 6)) (.tp [6, 7]) .enm [.slc (.var 2) [] [.bi .len [.var 3]]] [.call "is_within" [.op .shl (.int 1) (.var 7), .var 4]] [6, 7]) [.sh (.tuple (List.map (fun x : Nat => PyData.int (x : Int)) fs)), .sh (.str (Str.ofString "all")), .sh (.list (List.map (fun x : Nat => PyData.int (x : Int)) pts)), .sh (.tuple (List.map (fun x : Nat => PyData.int (x : Int)) row)), .sh (.int it), jn o5, .un, .un] = .ok (.list (List.map (fun x : Nat => PyData.int (x : Int)) (seenN pts row it))) [.sh (.tuple (List.map (fun x : Nat => PyData.int (x : Int)) fs)), .sh (.str (Str.ofString "all")), .sh (.list (List.map (fun x : Nat => PyData.int (x : Int)) pts)), .sh (.tuple (List.map (fun x : Nat => PyData.int (x : Int)) row)), .sh (.int it), jn o5, .un, .un] := by
      simp (maxDischargeDepth := 9) [zipIdx_map', eraseIdx_map', tail_map', drop_map', take_map', -List.map_tail, -List.map_drop, -List.map_take, -getElem?_pos, -getElem?_neg, -Int.natCast_shiftRight, -Nat.and_one_is_mod, -Int.natCast_pow, -Nat.one_and_eq_mod_two, hl]
      rw [compE_eq (fun p : Nat × Nat => it.testBit p.1) (fun p : Nat × Nat => PyData.int ((row.getD p.2 0 : Nat) : Int)) (by simp (maxDischargeDepth := 9) [zipIdx_map', eraseIdx_map', tail_map', drop_map', take_map', -List.map_tail, -List.map_drop, -List.map_take, -getElem?_pos, -getElem?_neg, -Int.natCast_shiftRight, -Nat.and_one_is_mod, -Int.natCast_pow, -Nat.one_and_eq_mod_two]) (by simp (maxDischargeDepth := 9) [zipIdx_map', eraseIdx_map', tail_map', drop_map', take_map', -List.map_tail, -List.map_drop, -List.map_take, -getElem?_pos, -getElem?_neg, -Int.natCast_shiftRight, -Nat.and_one_is_mod, -Int.natCast_pow, -Nat.one_and_eq_mod_two]) (by simp (maxDischargeDepth := 9) [zipIdx_map', eraseIdx_map', tail_map', drop_map', take_map', -List.map_tail, -List.map_drop, -List.map_take, -getElem?_pos, -getElem?_neg, -Int.natCast_shiftRight, -Nat.and_one_is_mod, -Int.natCast_pow, -Nat.one_and_eq_mod_two])]
      · rw [← seen_zip, List.map_map]
        simp (maxDischargeDepth := 9) [zipIdx_map', eraseIdx_map', tail_map', drop_map', take_map', -List.map_tail, -List.map_drop, -List.map_take, -getElem?_pos, -getElem?_neg, -Int.natCast_shiftRight, -Nat.and_one_is_mod, -Int.natCast_pow, -Nat.one_and_eq_mod_two]
      · intro p hp2
        have h2 : p.2 < row.length := by
          have := List.snd_lt_of_mem_zipIdx hp2
          omega
        have h3 : p.1 < 6 := hp p.1 (by
          have := List.fst_mem_of_mem_zipIdx hp2
          exact this)
        have h4 : p.1 ≤ 1000000 := by omega
        have h5 := within_bit p.1 h3 it hit64
        refine ⟨_, rfl, ?_⟩
        simp (maxDischargeDepth := 9) [zipIdx_map', eraseIdx_map', tail_map', drop_map', take_map', -List.map_tail, -List.map_drop, -List.map_take, -getElem?_pos, -getElem?_neg, -Int.natCast_shiftRight, -Nat.and_one_is_mod, -Int.natCast_pow, -Nat.one_and_eq_mod_two, h2, h4, h5]
        simp [h2]
    by_cases c : (seenN pts row it).Nodup
    · have c' : ¬ (nubN (seenN pts row it)).length < (seenN pts row it).length := fun z => (nub_nd _).mp z c
      refine ⟨_, rfl, PO_step (ρ1 := [.sh (.tuple (List.map (fun x : Nat => PyData.int (x : Int)) fs)), .sh (.str (Str.ofString "all")), .sh (.list (List.map (fun x : Nat => PyData.int (x : Int)) pts)), .sh (.tuple (List.map (fun x : Nat => PyData.int (x : Int)) row)), .sh (.int it), .sh (.list (List.map (fun x : Nat => PyData.int (x : Int)) (seenN pts row it))), .un, .un]) (by
        rw [evS_asg]
        exact congrArg (fun r : R D => r.out fun d ρ1 => Out.nx (ρ1.set 5 (.sh d))) e1) (PO_end (ρ1 := [.sh (.tuple (List.map (fun x : Nat => PyData.int (x : Int)) fs)), .sh (.str (Str.ofString "all")), .sh (.list (List.map (fun x : Nat => PyData.int (x : Int)) pts)), .sh (.tuple (List.map (fun x : Nat => PyData.int (x : Int)) row)), .sh (.int it), .sh (.list (List.map (fun x : Nat => PyData.int (x : Int)) (seenN pts row it))), .un, .un]) (by simp (maxDischargeDepth := 9) [zipIdx_map', eraseIdx_map', tail_map', drop_map', take_map', -List.map_tail, -List.map_drop, -List.map_take, -getElem?_pos, -getElem?_neg, -Int.natCast_shiftRight, -Nat.and_one_is_mod, -Int.natCast_pow, -Nat.one_and_eq_mod_two, hs', c', hsa, hsb, hsc]) ⟨?_, some _, some _, rfl⟩)⟩
      rw [List.all_append, hall]
      simp [ownB, c]
    · have c' : (nubN (seenN pts row it)).length < (seenN pts row it).length := (nub_nd _).mpr c
      refine ⟨_, rfl, PO_step (ρ1 := [.sh (.tuple (List.map (fun x : Nat => PyData.int (x : Int)) fs)), .sh (.str (Str.ofString "all")), .sh (.list (List.map (fun x : Nat => PyData.int (x : Int)) pts)), .sh (.tuple (List.map (fun x : Nat => PyData.int (x : Int)) row)), .sh (.int it), .sh (.list (List.map (fun x : Nat => PyData.int (x : Int)) (seenN pts row it))), .un, .un]) (by
        rw [evS_asg]
        exact congrArg (fun r : R D => r.out fun d ρ1 => Out.nx (ρ1.set 5 (.sh d))) e1) (PO_last (d := .int it) (ρ1 := [.sh (.tuple (List.map (fun x : Nat => PyData.int (x : Int)) fs)), .sh (.str (Str.ofString "all")), .sh (.list (List.map (fun x : Nat => PyData.int (x : Int)) pts)), .sh (.tuple (List.map (fun x : Nat => PyData.int (x : Int)) row)), .sh (.int it), .sh (.list (List.map (fun x : Nat => PyData.int (x : Int)) (seenN pts row it))), .un, .un]) (by simp (maxDischargeDepth := 9) [zipIdx_map', eraseIdx_map', tail_map', drop_map', take_map', -List.map_tail, -List.map_drop, -List.map_take, -getElem?_pos, -getElem?_neg, -Int.natCast_shiftRight, -Nat.and_one_is_mod, -Int.natCast_pow, -Nat.one_and_eq_mod_two, hs', c', hsa, hsb, hsc]) ?_)⟩
      rw [isNoneD_int]
      symm
      rw [ownR, ← Bool.not_eq_true, List.all_eq_true]
      intro z
      have := z it hit
      rw [ownB] at this
      exact c (of_decide_eq_true this)
  · rintro ρ ⟨hall, o4, o5, rfl⟩
    refine PO_last (d := .none) (ρ1 := [.sh (.tuple (List.map (fun x : Nat => PyData.int (x : Int)) fs)), .sh (.str (Str.ofString "all")), .sh (.list (List.map (fun x : Nat => PyData.int (x : Int)) pts)), .sh (.tuple (List.map (fun x : Nat => PyData.int (x : Int)) row)), jn o4, jn o5, .un, .un]) (by simp (maxDischargeDepth := 9) [zipIdx_map', eraseIdx_map', tail_map', drop_map', take_map', -List.map_tail, -List.map_drop, -List.map_take, -getElem?_pos, -getElem?_neg, -Int.natCast_shiftRight, -Nat.and_one_is_mod, -Int.natCast_pow, -Nat.one_and_eq_mod_two]) ?_
    rw [isNoneD_none]
    exact hall.symm

end S81

end
section
set_option linter.all false
set_option autoImplicit false
set_option maxRecDepth 100000
set_option Elab.async false
namespace S81
open PySem JK JK.JKS
variable {n : Nat}
theorem part_step (C : Cfg) (nn x2 : D) (rows : List (List Nat)) (hr : ∀ r ∈ rows, r.length ≤ 10 ∧ mxN r ≤ 100) (hl : ((rows.map fun row => (List.range (mxN row)).map fun c => row ++ [c]).flatten).length < 1000000) :
    evE C (.comp2 (.op .add (.var 3) (.tup [.var 4])) (.nm 3) .seq [.var 1] [] (.nm 4) .rng [.op .add (.bi .max [.op .add (.tup [.neg (.int 1)]) (.var 3)]) (.int 2)] [] [3, 4] [4]) [.sh nn, .sh (.list (rows.map tupN)), .sh x2, .un, .un] =
      .ok (.list (((rows.map fun row => (List.range (mxN row)).map fun c => row ++ [c]).flatten).map tupN)) [.sh nn, .sh (.list (rows.map tupN)), .sh x2, .un, .un] := by
  have hfl : (rows.map fun row => (List.range (mxN row)).map fun c => tupN (row ++ [c])).flatten = ((rows.map fun row => (List.range (mxN row)).map fun c => row ++ [c]).flatten).map tupN := by
    rw [List.map_flatten, List.map_map]
    congr 1
    apply List.map_congr_left
    intro a _
    simp
  have hsh : (rows.all fun a => shap 98 (tupN a)) = true := by
    rw [List.all_eq_true]; intro a _; simp [tupN]
  simp (maxDischargeDepth := 9) [zipIdx_map', eraseIdx_map', tail_map', drop_map', take_map', -List.map_tail, -List.map_drop, -List.map_take, -getElem?_pos, -getElem?_neg, -Int.natCast_shiftRight, -Nat.and_one_is_mod, -Int.natCast_pow, -Nat.one_and_eq_mod_two]
  rw [compE_eq (fun _ => true) (fun row : List Nat => (List.range (mxN row)).map fun c => tupN (row ++ [c])) (by simp (maxDischargeDepth := 9) [zipIdx_map', eraseIdx_map', tail_map', drop_map', take_map', -List.map_tail, -List.map_drop, -List.map_take, -getElem?_pos, -getElem?_neg, -Int.natCast_shiftRight, -Nat.and_one_is_mod, -Int.natCast_pow, -Nat.one_and_eq_mod_two]) (by simp (maxDischargeDepth := 9) [zipIdx_map', eraseIdx_map', tail_map', drop_map', take_map', -List.map_tail, -List.map_drop, -List.map_take, -getElem?_pos, -getElem?_neg, -Int.natCast_shiftRight, -Nat.and_one_is_mod, -Int.natCast_pow, -Nat.one_and_eq_mod_two]) (by simp (maxDischargeDepth := 9) [zipIdx_map', eraseIdx_map', tail_map', drop_map', take_map', -List.map_tail, -List.map_drop, -List.map_take, -getElem?_pos, -getElem?_neg, -Int.natCast_shiftRight, -Nat.and_one_is_mod, -Int.natCast_pow, -Nat.one_and_eq_mod_two])]
  · have hl2 := hl
    rw [← List.length_map (f := tupN), ← hfl] at hl2
    simp only [filter_tt, bd_ok, lenOk_def]
    rw [if_pos (by simpa using hl2), hfl]
    simp only [List.map_flatten, List.map_map]
  · intro row hrow
    have h1 := (hr row hrow).1
    have h2 := (hr row hrow).2
    have h3 : row.length + 1 < 1000000 := by omega
    have h4 := bi_maxM row
    have h5 : (if row = [] then (-1 : Int) else ((maxN row : Nat) : Int)) + 2 = ((mxN row : Nat) : Int) := by
      unfold mxN
      split <;> omega
    have h6 : mxN row ≤ 1000000 := by omega
    refine ⟨_, rfl, ?_⟩
    simp (maxDischargeDepth := 9) [zipIdx_map', eraseIdx_map', tail_map', drop_map', take_map', -List.map_tail, -List.map_drop, -List.map_take, -getElem?_pos, -getElem?_neg, -Int.natCast_shiftRight, -Nat.and_one_is_mod, -Int.natCast_pow, -Nat.one_and_eq_mod_two, tupN, h3, h4, h5, h6]
theorem part_loop (C : Cfg) (nn : D) : ∀ (l : List Nat) (j : Nat) (x2 : Sl), isOw [x2] 0 = false → j + l.length < 7 → ∃ y2 : Sl, isOw [y2] 0 = false ∧
    forL (.nm 2) (evSs C n [] false [.asg 1 (.comp2 (.op .add (.var 3) (.tup [.var 4])) (.nm 3) .seq [.var 1] [] (.nm 4) .rng [.op .add (.bi .max [.op .add (.tup [.neg (.int 1)]) (.var 3)]) (.int 2)] [] [3, 4] [4])]) (fun _ => true) (List.map (fun x : Nat => PyData.int (x : Int)) l) [.sh nn, .sh (.list ((rgN j).map tupN)), x2, .un, .un] = .nx [.sh nn, .sh (.list ((rgN (j + l.length)).map tupN)), y2, .un, .un]
  | [], j, x2, h, _ => ⟨x2, h, rfl⟩
  | i :: l, j, x2, h, hj => by
    have hj' : j + (l.length + 1) < 7 := by simpa using hj
    have ho := rg_ok j (by omega)
    have e := part_step C nn (.int i) (rgN j) (fun r hr => ⟨by have := (ho.1 r hr).1; omega, (ho.1 r hr).2.1⟩) (by
      have := (rg_ok (j + 1) (by omega)).2
      have h2 : (rgN (j + 1)).length < 1000000 := by omega
      exact h2)
    obtain ⟨y2, hy, e2⟩ := part_loop C nn l (j + 1) (.sh (.int i)) rfl (by omega)
    refine ⟨y2, hy, ?_⟩
    rw [List.map_cons, forL, bindT_nm]
    simp only [List.set_cons_succ, List.set_cons_zero, evSs_cons', evS_asg, e, out_ok, sq_nx, evSs_nil, if_true]
    rw [show j + (i :: l).length = (j + 1) + l.length from by simp; omega]
    exact e2
theorem partings_sp (k : Nat) (m : Nat) (hm : m < 7) : callP k81_P n (k+1) "partings" [.int m] = .ok (.list ((rgN m).map tupN)) [] := by
  obtain ⟨y2, hy, e⟩ := part_loop (n := n) ⟨callP k81_P n k, k81_P.G, k81_P.io, k81_P.ff⟩ (.int m) (List.range m) 0 .un rfl (by simpa using hm)
  rw [List.length_range, Nat.zero_add] at e
  have hm' : m ≤ 1000000 := by omega
  have g1 : evSs ⟨callP k81_P n k, k81_P.G, k81_P.io, k81_P.ff⟩ n [] false (k81_partings.body.take 1) [.sh (.int m), .un, .un, .un, .un] = .nx [.sh (.int m), .sh (.list ((rgN 0).map tupN)), .un, .un, .un] := by simp (maxDischargeDepth := 9) [zipIdx_map', eraseIdx_map', tail_map', drop_map', take_map', -List.map_tail, -List.map_drop, -List.map_take, -getElem?_pos, -getElem?_neg, -Int.natCast_shiftRight, -Nat.and_one_is_mod, -Int.natCast_pow, -Nat.one_and_eq_mod_two, k81_partings, rgN, tupN]
  have g2 : evAs ⟨callP k81_P n k, k81_P.G, k81_P.io, k81_P.ff⟩ [.var 0] [.sh (.int m), .sh (.list ((rgN 0).map tupN)), .un, .un, .un] = .ok [.val (.int m)] [.sh (.int m), .sh (.list ((rgN 0).map tupN)), .un, .un, .un] := by simp (maxDischargeDepth := 9) [zipIdx_map', eraseIdx_map', tail_map', drop_map', take_map', -List.map_tail, -List.map_drop, -List.map_take, -getElem?_pos, -getElem?_neg, -Int.natCast_shiftRight, -Nat.and_one_is_mod, -Int.natCast_pow, -Nat.one_and_eq_mod_two]
  have g3 : itemsD .rng [.int (m : Int)] = .ok (List.map (fun x : Nat => PyData.int (x : Int)) (List.range m)) := by
    rw [it_rngN _ (by omega) (by omega), Int.toNat_natCast]
  rw [C_partings, evSs_cut _ _ _ _ 1, g1, sq_nx, show k81_partings.body.drop 1 = [.for_ (.nm 2) .rng [.var 0]
    [.asg 1 (.comp2 (.op .add (.var 3) (.tup [.var 4])) (.nm 3) .seq [.var 1] [] (.nm 4) .rng [.op .add (.bi .max [.op .add (.tup [.neg (.int 1)]) (.var 3)]) (.int 2)] [] [3, 4] [4])], .ret (.var 1)] from rfl, evSs_cons', evS_for, g2, out_ok]
  simp only [rsAll_cons, rs_val, Option.bind_some, rsAll_nil, Option.map_some, borIn_v, borIn_n, g3, lift_ok, out_ok, Bool.false_eq_true, if_false]
  rw [show (fun ρ' : Ev => sameD (some [PyData.int (m : Int)]) (some [PyData.int (m : Int)])) = fun _ => true from funext fun _ => sameD_some _ (by simp), e, sq_nx]
  simp (maxDischargeDepth := 9) [zipIdx_map', eraseIdx_map', tail_map', drop_map', take_map', -List.map_tail, -List.map_drop, -List.map_take, -getElem?_pos, -getElem?_neg, -Int.natCast_shiftRight, -Nat.and_one_is_mod, -Int.natCast_pow, -Nat.one_and_eq_mod_two]

def fallN (m : Int) (s : Nat) : Int := (List.range s).foldl (fun (f : Int) (k : Nat) => f * (m - (k : Int))) 1
theorem fall_sp (k : Nat) (m : Int) (s : Nat) (hs : s ≤ 1000) (hm0 : 0 ≤ m) (hm : m ≤ 1000) : callP k81_P n (k+1) "falling" [.int m, .int (s : Nat)] = .ok (.int (fallN m s)) [] := by
  rw [C_falling]
  refine fin_PO ?_
  refine PO_step (ρ1 := [.sh (.int m), .sh (.int (s : Nat)), .sh (.int 1), .un]) (by simp (maxDischargeDepth := 9) [zipIdx_map', eraseIdx_map', tail_map', drop_map', take_map', -List.map_tail, -List.map_drop, -List.map_take, -getElem?_pos, -getElem?_neg, -Int.natCast_shiftRight, -Nat.and_one_is_mod, -Int.natCast_pow, -Nat.one_and_eq_mod_two]) ?_
  refine PO_for1 (xs := List.range s) (g := fun x : Nat => PyData.int (x : Int)) (fun pre ρ => ∃ o3, ρ = [.sh (.int m), .sh (.int (s : Nat)), .sh (.int (pre.foldl (fun (f : Int) (k : Nat) => f * (m - (k : Int))) 1)), jn o3]) (d := .int (s : Nat)) (by simp (maxDischargeDepth := 9) [zipIdx_map', eraseIdx_map', tail_map', drop_map', take_map', -List.map_tail, -List.map_drop, -List.map_take, -getElem?_pos, -getElem?_neg, -Int.natCast_shiftRight, -Nat.and_one_is_mod, -Int.natCast_pow, -Nat.one_and_eq_mod_two]) (by rw [it_rngN _ (by omega) (by omega)]; simp) (by simp) ⟨none, rfl⟩ ?_ ?_
  · rintro p x q hq ρ ⟨o3, rfl⟩
    refine ⟨_, rfl, PO_end (ρ1 := [.sh (.int m), .sh (.int (s : Nat)), .sh (.int ((p ++ [x]).foldl (fun (f : Int) (k : Nat) => f * (m - (k : Int))) 1)), .sh (.int x)]) ?_ ⟨some (.int x), rfl⟩⟩
    rw [List.foldl_append]
    generalize p.foldl (fun (f : Int) (k : Nat) => f * (m - (k : Int))) 1 = a
    have hx : x < s := List.mem_range.mp (by rw [hq]; simp)
    have hsm : smallI (m - (x : Int)) = true := by simp [smallI]; omega
    have hmul : opD .mul (.int a) (.int (m - (x : Int))) = .ok (.int (a * (m - (x : Int)))) := by simp [opD, hsm]
    simp (maxDischargeDepth := 9) [zipIdx_map', eraseIdx_map', tail_map', drop_map', take_map', -List.map_tail, -List.map_drop, -List.map_take, -getElem?_pos, -getElem?_neg, -Int.natCast_shiftRight, -Nat.and_one_is_mod, -Int.natCast_pow, -Nat.one_and_eq_mod_two, hmul]
  · rintro ρ ⟨o3, rfl⟩
    exact PO_last (ρ1 := [.sh (.int m), .sh (.int (s : Nat)), .sh (.int (fallN m s)), jn o3]) (by simp (maxDischargeDepth := 9) [zipIdx_map', eraseIdx_map', tail_map', drop_map', take_map', -List.map_tail, -List.map_drop, -List.map_take, -getElem?_pos, -getElem?_neg, -Int.natCast_shiftRight, -Nat.and_one_is_mod, -Int.natCast_pow, -Nat.one_and_eq_mod_two, fallN]) rfl
def cntG (fs pts : List Nat) (rows : List (List Nat)) (j : Nat) : Nat := ((rows.filter (ownR fs pts)).map fun r => maxN r + 1).count j
theorem cntG_snoc (fs pts : List Nat) (rows : List (List Nat)) (r : List Nat) (j : Nat) : cntG fs pts (rows ++ [r]) j = cntG fs pts rows j + if ownR fs pts r && maxN r + 1 == j then 1 else 0 := by
  rw [cntG, cntG, List.filter_append, List.map_append, List.count_append]
  congr 1
  cases c : ownR fs pts r
  · simp [c]
  · simp [c, List.count_singleton]
theorem rg_max : ∀ n < 7, 0 < n → ∀ r ∈ rgN n, maxN r < n := by decide +kernel
theorem class_sp (k : Nat) (fs : List Nat) (hF : Fam fs) : callP k81_P n (k+5) "class_counts" [.tuple (List.map (fun x : Nat => PyData.int (x : Int)) fs), .str (Str.ofString "all")] = .ok (.list (List.map (fun x : Nat => PyData.int (x : Int)) ((List.range ((pin (uni fs)).length + 1)).map (cntG fs (pin (uni fs)) (rgN (pin (uni fs)).length))))) [] := by
  have hsb : PyData.strOk (Str.ofString "all") = true := by decide +kernel
  have ep := ptt_sp (n := n) (k+1) fs
  have h6 : (pin (uni fs)).length ≤ 6 := size_le (uni fs)
  have hpos := uni_pos hF
  have hz : opD .mul (.list [.int 0]) (.int (((pin (uni fs)).length : Int) + 1)) = .ok (.list (List.map (fun x : Nat => PyData.int (x : Int)) ((List.range ((pin (uni fs)).length + 1)).map (cntG fs (pin (uni fs)) [])))) := by
    rw [show cntG fs (pin (uni fs)) [] = fun _ => 0 from funext fun j => by simp [cntG]]
    exact rep_zero ((pin (uni fs)).length + 1) (by omega)
  have hpt := partings_sp (n := n) (k+3) (pin (uni fs)).length (by omega)
  have hro := rg_ok (pin (uni fs)).length (by omega)
  have hrm := rg_max (pin (uni fs)).length (by omega) hpos
  have hmem : ∀ x ∈ pin (uni fs), x < 6 := fun x hx => (mem_pin.mp hx).1
  generalize pin (uni fs) = pts at *
  rw [C_class_counts]
  refine fin_PO ?_
  refine PO_steps 2 (ρ1 := [.sh (.tuple (List.map (fun x : Nat => PyData.int (x : Int)) fs)), .sh (.str (Str.ofString "all")), .sh (.list (List.map (fun x : Nat => PyData.int (x : Int)) pts)), .ow (.list (List.map (fun x : Nat => PyData.int (x : Int)) ((List.range (pts.length + 1)).map (cntG fs pts [])))), .un]) (by
      generalize (List.range (pts.length + 1)).map (cntG fs pts []) = Z at hz ⊢
      simp (maxDischargeDepth := 9) [zipIdx_map', eraseIdx_map', tail_map', drop_map', take_map', -List.map_tail, -List.map_drop, -List.map_take, -getElem?_pos, -getElem?_neg, -Int.natCast_shiftRight, -Nat.and_one_is_mod, -Int.natCast_pow, -Nat.one_and_eq_mod_two, k81_class_counts, freshE, ep, hz]) ?_
  refine PO_for1 (xs := rgN pts.length) (g := tupN) (fun pre ρ => ∃ o4, ρ = [.sh (.tuple (List.map (fun x : Nat => PyData.int (x : Int)) fs)), .sh (.str (Str.ofString "all")), .sh (.list (List.map (fun x : Nat => PyData.int (x : Int)) pts)), .ow (.list (List.map (fun x : Nat => PyData.int (x : Int)) ((List.range (pts.length + 1)).map (cntG fs pts pre)))), jn o4]) (d := .list ((rgN pts.length).map tupN)) (ρ0 := [.sh (.tuple (List.map (fun x : Nat => PyData.int (x : Int)) fs)), .sh (.str (Str.ofString "all")), .sh (.list (List.map (fun x : Nat => PyData.int (x : Int)) pts)), .ow (.list (List.map (fun x : Nat => PyData.int (x : Int)) ((List.range (pts.length + 1)).map (cntG fs pts [])))), .un]) (by simp (maxDischargeDepth := 9) [zipIdx_map', eraseIdx_map', tail_map', drop_map', take_map', -List.map_tail, -List.map_drop, -List.map_take, -getElem?_pos, -getElem?_neg, -Int.natCast_shiftRight, -Nat.and_one_is_mod, -Int.natCast_pow, -Nat.one_and_eq_mod_two, hpt]) rfl (tups_shap _) ⟨none, rfl⟩ ?_ ?_
  · rintro p r q hq ρ ⟨o4, rfl⟩
    have hr : r ∈ rgN pts.length := by rw [hq]; simp
    have hrl := (hro.1 r hr).1
    have hj := hrm r hr
    have hne : r ≠ [] := fun e => by rw [e] at hrl; simp at hrl; omega
    obtain ⟨v, ev, hv⟩ := spoils_sp (n := n) k fs pts r hF.lt hmem h6 hrl
    have hmx := bi_maxT (fun x : Nat => x) r hne
    rw [List.map_id'] at hmx
    refine ⟨[.sh (.tuple (List.map (fun x : Nat => PyData.int (x : Int)) fs)), .sh (.str (Str.ofString "all")), .sh (.list (List.map (fun x : Nat => PyData.int (x : Int)) pts)), .ow (.list (List.map (fun x : Nat => PyData.int (x : Int)) ((List.range (pts.length + 1)).map (cntG fs pts p)))), .sh (tupN r)], rfl, PO_end (ρ1 := [.sh (.tuple (List.map (fun x : Nat => PyData.int (x : Int)) fs)), .sh (.str (Str.ofString "all")), .sh (.list (List.map (fun x : Nat => PyData.int (x : Int)) pts)), .ow (.list (List.map (fun x : Nat => PyData.int (x : Int)) ((List.range (pts.length + 1)).map (cntG fs pts (p ++ [r]))))), .sh (tupN r)]) ?_ ⟨some (tupN r), rfl⟩⟩
    have hg : (List.map (fun x : Nat => PyData.int (x : Int)) ((List.range (pts.length + 1)).map (cntG fs pts p)))[maxN r + 1]? = some (.int (cntG fs pts p (maxN r + 1) : Nat)) := by
      simp [hj]
    have hl2 : maxN r + 1 < (List.map (fun x : Nat => PyData.int (x : Int)) ((List.range (pts.length + 1)).map (cntG fs pts p))).length := by simp; omega
    have hs1 : ownR fs pts r = true → (List.map (fun x : Nat => PyData.int (x : Int)) ((List.range (pts.length + 1)).map (cntG fs pts p))).set (maxN r + 1) (.int ((cntG fs pts p (maxN r + 1) : Nat) + 1)) = List.map (fun x : Nat => PyData.int (x : Int)) ((List.range (pts.length + 1)).map (cntG fs pts (p ++ [r]))) := fun hf => by
      apply List.ext_getElem
      · simp
      · intro i h3 h4
        rw [List.getElem_set]
        simp only [List.getElem_map, List.getElem_range, cntG_snoc, hf, Bool.true_and, beq_iff_eq]
        by_cases c : maxN r + 1 = i
        · subst c
          simp
        · simp [c]
    have hs0 : ownR fs pts r = false → List.map (fun x : Nat => PyData.int (x : Int)) ((List.range (pts.length + 1)).map (cntG fs pts p)) = List.map (fun x : Nat => PyData.int (x : Int)) ((List.range (pts.length + 1)).map (cntG fs pts (p ++ [r]))) := fun hf => by
      rw [show (List.range (pts.length + 1)).map (cntG fs pts p) = (List.range (pts.length + 1)).map (cntG fs pts (p ++ [r])) from List.map_congr_left fun i _ => by rw [cntG_snoc, hf]; simp]
    have hti : (((maxN r : Nat) : Int) + 1).toNat = maxN r + 1 := by omega
    have hti0 : (0 : Int) ≤ ((maxN r : Nat) : Int) + 1 := by omega
    generalize List.map (fun x : Nat => PyData.int (x : Int)) ((List.range (pts.length + 1)).map (cntG fs pts p)) = CL at *
    generalize List.map (fun x : Nat => PyData.int (x : Int)) ((List.range (pts.length + 1)).map (cntG fs pts (p ++ [r]))) = CM at *
    cases hb : ownR fs pts r with
    | true =>
      have h9 := hs1 hb
      rw [hb] at hv
      simp (maxDischargeDepth := 9) [zipIdx_map', eraseIdx_map', tail_map', drop_map', take_map', -List.map_tail, -List.map_drop, -List.map_take, -getElem?_pos, -getElem?_neg, -Int.natCast_shiftRight, -Nat.and_one_is_mod, -Int.natCast_pow, -Nat.one_and_eq_mod_two, tupN, ev, hv, hmx, hti, hti0, hg, hl2, h9]
    | false =>
      have h9 := hs0 hb
      subst h9
      rw [hb] at hv
      simp (maxDischargeDepth := 9) [zipIdx_map', eraseIdx_map', tail_map', drop_map', take_map', -List.map_tail, -List.map_drop, -List.map_take, -getElem?_pos, -getElem?_neg, -Int.natCast_shiftRight, -Nat.and_one_is_mod, -Int.natCast_pow, -Nat.one_and_eq_mod_two, tupN, ev, hv]
  · rintro ρ ⟨o4, rfl⟩
    refine PO_last (ρ1 := [.sh (.tuple (List.map (fun x : Nat => PyData.int (x : Int)) fs)), .sh (.str (Str.ofString "all")), .sh (.list (List.map (fun x : Nat => PyData.int (x : Int)) pts)), .ow (.list (List.map (fun x : Nat => PyData.int (x : Int)) ((List.range (pts.length + 1)).map (cntG fs pts (rgN pts.length))))), jn o4]) ?_ rfl
    generalize List.map (fun x : Nat => PyData.int (x : Int)) ((List.range (pts.length + 1)).map (cntG fs pts (rgN pts.length))) = CL at *
    simp (maxDischargeDepth := 9) [zipIdx_map', eraseIdx_map', tail_map', drop_map', take_map', -List.map_tail, -List.map_drop, -List.map_take, -getElem?_pos, -getElem?_neg, -Int.natCast_shiftRight, -Nat.and_one_is_mod, -Int.natCast_pow, -Nat.one_and_eq_mod_two]

end S81

end
section
set_option linter.all false
set_option autoImplicit false
set_option maxRecDepth 100000
set_option Elab.async false
namespace S81
open PySem JK JK.JKS
variable {n : Nat}
theorem enm_map (M : Nat) (c : Nat → Nat) : itemsD .enm [.list (List.map (fun x : Nat => PyData.int (x : Int)) ((List.range M).map c))] = .ok ((List.range M).map fun j : Nat => PyData.tuple [.int (j : Nat), .int (c j : Nat)]) := by
  rw [it_enmL]
  congr 1
  apply List.ext_getElem
  · simp
  · intro i h1 h2
    simp
theorem cnt_small (fs pts : List Nat) (rows : List (List Nat)) (h : rows.length ≤ 203) (j : Nat) : cntG fs pts rows j ≤ 203 := by
  have h1 : cntG fs pts rows j ≤ ((rows.filter (ownR fs pts)).map fun r => maxN r + 1).length := List.count_le_length
  rw [List.length_map] at h1
  have h2 := List.length_filter_le (ownR fs pts) rows
  omega
theorem way_all (k : Nat) : callP k81_P n (k+1) "check_way" [.str (Str.ofString "all")] = .ok .none [] := by
  have hsb : PyData.strOk (Str.ofString "all") = true := by decide +kernel
  have hsc : PyData.strOk (Str.ofString "some") = true := by decide +kernel
  simp (maxDischargeDepth := 9) [zipIdx_map', eraseIdx_map', tail_map', drop_map', take_map', -List.map_tail, -List.map_drop, -List.map_take, -getElem?_pos, -getElem?_neg, -Int.natCast_shiftRight, -Nat.and_one_is_mod, -Int.natCast_pow, -Nat.one_and_eq_mod_two, C_check_way, k81_check_way, hsb, hsc]
theorem few_sp (k : Nat) (fs : List Nat) (hF : Fam fs) (q : Nat) (t : List Nat) (h : (List.range ((pin (uni fs)).length + 1)).filter (fun j => decide (0 < cntG fs (pin (uni fs)) (rgN (pin (uni fs)).length) j)) = q :: t) : callP k81_P n (k+6) "fewest" [.tuple (List.map (fun x : Nat => PyData.int (x : Int)) fs), .str (Str.ofString "all")] = .ok (.int (q : Nat)) [] := by
  have hsb : PyData.strOk (Str.ofString "all") = true := by decide +kernel
  have e1 := class_sp (n := n) k fs hF
  have e2 := way_all (n := n) (k+4)
  have e3 := enm_map ((pin (uni fs)).length + 1) (cntG fs (pin (uni fs)) (rgN (pin (uni fs)).length))
  generalize cntG fs (pin (uni fs)) (rgN (pin (uni fs)).length) = c at *
  have h6 : (pin (uni fs)).length ≤ 6 := size_le (uni fs)
  generalize (pin (uni fs)).length = M at *
  have hsh : shaps 99 (List.map (fun x : Nat => PyData.int (x : Int)) ((List.range (M + 1)).map c)) = true := by simp
  generalize List.map (fun x : Nat => PyData.int (x : Int)) ((List.range (M + 1)).map c) = CL at *
  simp (maxDischargeDepth := 9) [zipIdx_map', eraseIdx_map', tail_map', drop_map', take_map', -List.map_tail, -List.map_drop, -List.map_take, -getElem?_pos, -getElem?_neg, -Int.natCast_shiftRight, -Nat.and_one_is_mod, -Int.natCast_pow, -Nat.one_and_eq_mod_two, C_fewest, k81_fewest, hF, e1, e2, hsb, -it_enmL, e3]
  rw [compE_eq (fun j : Nat => decide (0 < c j)) (fun j : Nat => PyData.int (j : Int)) (by simp (maxDischargeDepth := 9) [zipIdx_map', eraseIdx_map', tail_map', drop_map', take_map', -List.map_tail, -List.map_drop, -List.map_take, -getElem?_pos, -getElem?_neg, -Int.natCast_shiftRight, -Nat.and_one_is_mod, -Int.natCast_pow, -Nat.one_and_eq_mod_two]) (by simp (maxDischargeDepth := 9) [zipIdx_map', eraseIdx_map', tail_map', drop_map', take_map', -List.map_tail, -List.map_drop, -List.map_take, -getElem?_pos, -getElem?_neg, -Int.natCast_shiftRight, -Nat.and_one_is_mod, -Int.natCast_pow, -Nat.one_and_eq_mod_two]) (by simp (maxDischargeDepth := 9) [zipIdx_map', eraseIdx_map', tail_map', drop_map', take_map', -List.map_tail, -List.map_drop, -List.map_take, -getElem?_pos, -getElem?_neg, -Int.natCast_shiftRight, -Nat.and_one_is_mod, -Int.natCast_pow, -Nat.one_and_eq_mod_two])]
  · rw [h]
    simp (maxDischargeDepth := 9) [zipIdx_map', eraseIdx_map', tail_map', drop_map', take_map', -List.map_tail, -List.map_drop, -List.map_take, -getElem?_pos, -getElem?_neg, -Int.natCast_shiftRight, -Nat.and_one_is_mod, -Int.natCast_pow, -Nat.one_and_eq_mod_two]
  · intro j hj
    refine ⟨_, rfl, ?_⟩
    simp (maxDischargeDepth := 9) [zipIdx_map', eraseIdx_map', tail_map', drop_map', take_map', -List.map_tail, -List.map_drop, -List.map_take, -getElem?_pos, -getElem?_neg, -Int.natCast_shiftRight, -Nat.and_one_is_mod, -Int.natCast_pow, -Nat.one_and_eq_mod_two, hsh]
theorem count_sp (k : Nat) (fs : List Nat) (hF : Fam fs) (m : Int) (hm0 : 0 ≤ m) (hm : m ≤ 20) : callP k81_P n (k+6) "count" [.tuple (List.map (fun x : Nat => PyData.int (x : Int)) fs), .str (Str.ofString "all"), .int m] = .ok (.int ((List.range ((pin (uni fs)).length + 1)).map fun j => (cntG fs (pin (uni fs)) (rgN (pin (uni fs)).length) j : Int) * fallN m j).sum) [] := by
  have hsb : PyData.strOk (Str.ofString "all") = true := by decide +kernel
  have e1 := class_sp (n := n) k fs hF
  have e2 := way_all (n := n) (k+4)
  have e4 : callP k81_P n (k+5) "check_many" [.int m, .int 0] = .ok .none [] := by simp (maxDischargeDepth := 9) [zipIdx_map', eraseIdx_map', tail_map', drop_map', take_map', -List.map_tail, -List.map_drop, -List.map_take, -getElem?_pos, -getElem?_neg, -Int.natCast_shiftRight, -Nat.and_one_is_mod, -Int.natCast_pow, -Nat.one_and_eq_mod_two, C_check_many, k81_check_many, hm0, hm]
  have e3 := enm_map ((pin (uni fs)).length + 1) (cntG fs (pin (uni fs)) (rgN (pin (uni fs)).length))
  have h6 : (pin (uni fs)).length ≤ 6 := size_le (uni fs)
  have hc := cnt_small fs (pin (uni fs)) (rgN (pin (uni fs)).length) (rg_ok (pin (uni fs)).length (by omega)).2
  generalize cntG fs (pin (uni fs)) (rgN (pin (uni fs)).length) = c at *
  generalize (pin (uni fs)).length = M at *
  have hsh : shaps 99 (List.map (fun x : Nat => PyData.int (x : Int)) ((List.range (M + 1)).map c)) = true := by simp
  generalize List.map (fun x : Nat => PyData.int (x : Int)) ((List.range (M + 1)).map c) = CL at *
  have hs := bi_sum (fun j : Nat => (c j : Int) * fallN m j) (List.range (M + 1))
  simp (maxDischargeDepth := 9) [zipIdx_map', eraseIdx_map', tail_map', drop_map', take_map', -List.map_tail, -List.map_drop, -List.map_take, -getElem?_pos, -getElem?_neg, -Int.natCast_shiftRight, -Nat.and_one_is_mod, -Int.natCast_pow, -Nat.one_and_eq_mod_two, C_count, k81_count, hF, e1, e2, e4, hsb, -it_enmL, e3]
  rw [compE_eq (fun _ => true) (fun j : Nat => PyData.int ((c j : Int) * fallN m j)) (by simp (maxDischargeDepth := 9) [zipIdx_map', eraseIdx_map', tail_map', drop_map', take_map', -List.map_tail, -List.map_drop, -List.map_take, -getElem?_pos, -getElem?_neg, -Int.natCast_shiftRight, -Nat.and_one_is_mod, -Int.natCast_pow, -Nat.one_and_eq_mod_two]) (by simp (maxDischargeDepth := 9) [zipIdx_map', eraseIdx_map', tail_map', drop_map', take_map', -List.map_tail, -List.map_drop, -List.map_take, -getElem?_pos, -getElem?_neg, -Int.natCast_shiftRight, -Nat.and_one_is_mod, -Int.natCast_pow, -Nat.one_and_eq_mod_two]) (by simp (maxDischargeDepth := 9) [zipIdx_map', eraseIdx_map', tail_map', drop_map', take_map', -List.map_tail, -List.map_drop, -List.map_take, -getElem?_pos, -getElem?_neg, -Int.natCast_shiftRight, -Nat.and_one_is_mod, -Int.natCast_pow, -Nat.one_and_eq_mod_two])]
  · rw [filter_tt]
    simp (maxDischargeDepth := 9) [zipIdx_map', eraseIdx_map', tail_map', drop_map', take_map', -List.map_tail, -List.map_drop, -List.map_take, -getElem?_pos, -getElem?_neg, -Int.natCast_shiftRight, -Nat.and_one_is_mod, -Int.natCast_pow, -Nat.one_and_eq_mod_two, hs]
  · intro j hj
    have hj2 := List.mem_range.mp hj
    have f := fall_sp (n := n) (k+4) m j (by omega) hm0 (by omega)
    have hmul : opD .mul (.int (c j : Nat)) (.int (fallN m j)) = .ok (.int ((c j : Int) * fallN m j)) := by
      have := hc j
      have hsm : smallI (c j : Int) = true := by simp [smallI]; omega
      simp [opD, hsm]
    refine ⟨_, rfl, ?_⟩
    simp (maxDischargeDepth := 9) [zipIdx_map', eraseIdx_map', tail_map', drop_map', take_map', -List.map_tail, -List.map_drop, -List.map_take, -getElem?_pos, -getElem?_neg, -Int.natCast_shiftRight, -Nat.and_one_is_mod, -Int.natCast_pow, -Nat.one_and_eq_mod_two, hsh, f, hmul]

end S81

end
section
set_option linter.all false
set_option autoImplicit false
set_option maxRecDepth 100000
set_option Elab.async false
namespace S81
open PySem JK JK.JKS
variable {n : Nat}
theorem pts_nd (fs : List Nat) : (pin (uni fs)).Nodup := (pin_asc _).imp fun h => Nat.ne_of_lt h
theorem lone_eq (fs : List Nat) : loneR fs = (setsR fs).filter (PW (farN fs)) :=
  meet_rows (p := farN fs) (far_comm fs) (pin (uni fs)) [[]] (pts_nd fs) (fun r hr x hx => by
    have : r = [] := by simpa using hr
    subst this; cases hx)
theorem lot_eq (fs : List Nat) : lotR fs = (setsR fs).filter (PW (nearN fs)) :=
  meet_rows (p := nearN fs) (near_comm fs) (pin (uni fs)) [[]] (pts_nd fs) (fun r hr x hx => by
    have : r = [] := by simpa using hr
    subst this; cases hx)
theorem near_self {fs : List Nat} {x : Nat} (h : x ∈ pin (uni fs)) : nearN fs x x = true := by
  have := (mem_pin.mp h).2
  rw [uni_bit] at this
  rw [nearN, ← this]
  congr 1; funext s
  rw [Bool.and_self]
theorem tog_eq {fs row : List Nat} (h : ∀ x ∈ row, x ∈ pin (uni fs)) : (row.all fun x => row.all fun y => nearN fs x y) = PW (nearN fs) row := by
  rw [Bool.eq_iff_iff, PW_iff]
  simp only [List.all_eq_true]
  constructor
  · intro a x hx y hy
    exact .inr (a x hx y hy)
  · intro a x hx y hy
    rcases a x hx y hy with rfl | e
    · exact near_self (h x hx)
    · exact e
/-- a part of the points is one of the rows -/
theorem sub_in (q : Nat → Bool) : ∀ (l : List Nat) (rows : List (List Nat)) (r : List Nat), r ∈ rows → r ++ l.filter q ∈ l.foldl allS rows
  | [], rows, r, h => by simpa using h
  | x :: l, rows, r, h => by
    by_cases c : q x = true
    · have := sub_in q l (allS rows x) (r ++ [x]) (List.mem_append_right _ (List.mem_map.mpr ⟨r, h, rfl⟩))
      rw [List.filter_cons_of_pos c]
      rw [List.append_assoc] at this
      exact this
    · have := sub_in q l (allS rows x) r (List.mem_append_left _ h)
      rw [List.filter_cons_of_neg c]
      exact this
theorem inj_nd (f : Nat → Nat) : ∀ l : List Nat, (l.map f).Nodup → ∀ x ∈ l, ∀ y ∈ l, f x = f y → x = y
  | [], _, x, hx, _, _, _ => by cases hx
  | a :: l, h, x, hx, y, hy, e => by
    rw [List.map_cons, List.nodup_cons] at h
    rcases List.mem_cons.mp hx with hx | hx <;> rcases List.mem_cons.mp hy with hy | hy
    · rw [hx, hy]
    · exact absurd (List.mem_map.mpr ⟨y, hy, by rw [← e, hx]⟩) h.1
    · exact absurd (List.mem_map.mpr ⟨x, hx, by rw [e, hy]⟩) h.1
    · exact inj_nd f l h.2 x hx y hy e
theorem map_nd {f : Nat → Nat} {l : List Nat} (h : ∀ x ∈ l, ∀ y ∈ l, f x = f y → x = y) (hn : l.Nodup) : (l.map f).Nodup :=
  List.pairwise_map.mpr (List.Pairwise.imp_of_mem (fun ha hb hne e => hne (h _ ha _ hb e)) hn)
theorem split_len (p : Nat → Bool) : ∀ l : List Nat, (l.filter p).length + (l.filter fun x => !p x).length = l.length
  | [] => rfl
  | a :: l => by
    have := split_len p l
    cases c : p a <;> simp [c] <;> omega
/-- a point's colour -/
def colN (pts row : List Nat) (x : Nat) : Nat := row.getD (pts.idxOf x) 0
theorem seen_col (pts row : List Nat) (hn : pts.Nodup) (it : Nat) : seenN pts row it = (pts.filter fun x => it.testBit x).map (colN pts row) := by
  have e : pts = (List.range pts.length).map fun k => pts.getD k 0 := by
    apply List.ext_getElem
    · simp
    · intro i h1 h2
      simp [h1]
  rw [seenN]
  conv => rhs; rw [e]
  rw [List.filter_map, List.map_map]
  apply List.map_congr_left
  intro k hk
  have hk2 : k < pts.length := List.mem_range.mp (List.mem_filter.mp hk).1
  show row.getD k 0 = row.getD (List.idxOf _ _) 0
  congr 1
  rw [← e]
  simp only [List.getD_eq_getElem?_getD, List.getElem?_eq_getElem hk2, Option.getD_some]
  exact (hn.idxOf_getElem k hk2).symm
/-- points that are together have their own colours -/
theorem own_near {fs pts row : List Nat} (hn : pts.Nodup) (h : ownR fs pts row = true) {x y : Nat} (hx : x ∈ pts) (hy : y ∈ pts) (hne : x ≠ y) (hxy : nearN fs x y = true) : colN pts row x ≠ colN pts row y := by
  rw [nearN, List.any_eq_true] at hxy
  obtain ⟨it, hit, hb⟩ := hxy
  obtain ⟨b1, b2⟩ := Bool.and_eq_true_iff.mp hb
  have h1 := List.all_eq_true.mp h it hit
  rw [ownB] at h1
  have h2 := of_decide_eq_true h1
  rw [seen_col pts row hn it] at h2
  intro e
  exact hne (inj_nd _ _ h2 x (List.mem_filter.mpr ⟨hx, b1⟩) y (List.mem_filter.mpr ⟨hy, b2⟩) e)
theorem col_lt {pts row : List Nat} (hl : row.length = pts.length) {x : Nat} (hx : x ∈ pts) : colN pts row x ≤ maxN row := by
  have h : pts.idxOf x < row.length := by rw [hl]; exact List.idxOf_lt_length_iff.mpr hx
  rw [colN, List.getD_eq_getElem?_getD, List.getElem?_eq_getElem h, Option.getD_some]
  exact le_maxN (List.getElem_mem h)
/-- a lot has at most as many points as there are colours -/
theorem lot_le {fs pts row c : List Nat} (hn : pts.Nodup) (hl : row.length = pts.length) (h : ownR fs pts row = true) (hc : c.Nodup) (hm : ∀ x ∈ c, x ∈ pts) (hp : PW (nearN fs) c = true) : c.length ≤ maxN row + 1 := by
  have h1 : (c.map (colN pts row)).Nodup := by
    refine map_nd (fun x hx y hy e => ?_) hc
    rcases PW_iff.mp hp x hx y hy with z | z
    · exact z
    · by_cases c : x = y
      · exact c
      · exact absurd e (own_near hn h (hm x hx) (hm y hy) c z)
  have h2 := len_le_of_subset h1 (l2 := List.range (maxN row + 1)) fun z hz => by
    obtain ⟨x, hx, rfl⟩ := List.mem_map.mp hz
    have := col_lt (row := row) hl (hm x hx)
    exact List.mem_range.mpr (by omega)
  simpa using h2
theorem class_sum (f : Nat → Nat) (b : Nat) : ∀ (c : Nat) (l : List Nat), (∀ x ∈ l, f x < c) → (∀ q < c, (l.filter fun x => f x == q).length ≤ b) → l.length ≤ c * b
  | 0, l, h, _ => by
    cases l with
    | nil => simp
    | cons x r => exact absurd (h x (by simp)) (Nat.not_lt_zero _)
  | c + 1, l, h, hb => by
    have h1 := class_sum f b c (l.filter fun x => !(f x == c)) (fun x hx => by
      obtain ⟨h2, h3⟩ := List.mem_filter.mp hx
      have := h x h2
      have h4 : f x ≠ c := by simpa using h3
      omega) (fun q hq => by
      have h2 := hb q (by omega)
      refine Nat.le_trans ?_ h2
      rw [List.filter_filter]
      have e : (l.filter fun a => f a == q && !(f a == c)) = (l.filter fun a => f a == q) := by
        apply List.filter_congr
        intro a _
        by_cases z : f a = q
        · subst z
          have : f a ≠ c := by omega
          simp [this]
        · simp [z]
      rw [e]
      exact Nat.le_refl _)
    have h2 := hb c (by omega)
    have h3 := split_len (fun x => f x == c) l
    rw [Nat.add_mul, Nat.one_mul]
    omega
/-- each colour is alone -/
theorem alone_ge {fs row : List Nat} (hl : row.length = (pin (uni fs)).length) (h : ownR fs (pin (uni fs)) row = true) : (pin (uni fs)).length ≤ (maxN row + 1) * bestL (loneR fs) := by
  refine class_sum (colN (pin (uni fs)) row) _ _ _ (fun x hx => by have := col_lt (row := row) hl hx; omega) fun q hq => ?_
  have h1 := sub_in (fun x => colN (pin (uni fs)) row x == q) (pin (uni fs)) [[]] [] (by simp)
  rw [List.nil_append] at h1
  have h2 : (pin (uni fs)).filter (fun x => colN (pin (uni fs)) row x == q) ∈ loneR fs := by
    rw [lone_eq]
    refine List.mem_filter.mpr ⟨h1, PW_iff.mpr fun x hx y hy => ?_⟩
    obtain ⟨x1, x2⟩ := List.mem_filter.mp hx
    obtain ⟨y1, y2⟩ := List.mem_filter.mp hy
    by_cases c : x = y
    · exact .inl c
    · right
      rw [farN, Bool.not_eq_true']
      refine Bool.eq_false_iff.mpr fun z => own_near (pts_nd fs) h x1 y1 c z ?_
      rw [eq_of_beq x2, eq_of_beq y2]
  rw [bestL]
  exact le_maxN (List.mem_map.mpr ⟨_, h2, rfl⟩)
theorem id_rg : ∀ n < 7, List.range n ∈ rgN n := by decide +kernel
/-- each point its own colour -/
theorem id_own (fs pts : List Nat) : ownR fs pts (List.range pts.length) = true := by
  refine List.all_eq_true.mpr fun it _ => ?_
  rw [ownB, decide_eq_true_eq, seenN]
  have e : ((List.range pts.length).filter fun k => it.testBit (pts.getD k 0)).map (fun k => (List.range pts.length).getD k 0) = (List.range pts.length).filter fun k => it.testBit (pts.getD k 0) := by
    conv => rhs; rw [← List.map_id' ((List.range pts.length).filter fun k => it.testBit (pts.getD k 0))]
    apply List.map_congr_left
    intro k hk
    have hk2 : k < pts.length := List.mem_range.mp (List.mem_filter.mp hk).1
    simp [hk2]
  rw [e]
  exact List.nodup_range.filter _

end S81

end
section
set_option linter.all false
set_option autoImplicit false
set_option maxRecDepth 100000
set_option Elab.async false
namespace S81
open PySem JK JK.JKS
variable {n : Nat}
theorem any_tup (row : List Nat) : ∀ rows : List (List Nat), ((rows.map tupN).any fun z => PyData.eqv z (tupN row)) = decide (row ∈ rows)
  | [] => rfl
  | r :: rows => by
    rw [List.map_cons, List.any_cons, any_tup row rows, tupN, tupN, eqv_tt, eqvAll_nats, Bool.eq_iff_iff]
    simp only [Bool.or_eq_true, decide_eq_true_eq, List.mem_cons]
    exact or_congr_left ⟨fun e => e.symm, fun e => e.symm⟩
theorem lbest_sp (k : Nat) (rows : List (List Nat)) (row : List Nat) (hne : rows ≠ []) (hm : row ∈ rows) (hl : row.length = bestL rows) : callP k81_P n (k+1) "_law_best" [.tuple [.int (bestL rows), tupN row], .list (rows.map tupN)] = .ok (.bool true) [] := by
  have hb := bi_max (fun r : List Nat => r.length) rows hne
  have hb' : biD .max [.list (rows.map fun a : List Nat => PyData.int ((a.length : Nat) : Int))] = .ok (.int (bestL rows)) := hb
  have hsh : (rows.all fun a => shap 98 (tupN a)) = true := by rw [List.all_eq_true]; intro a _; simp [tupN]
  have hsh2 : (rows.all fun a => shap 30 (tupN a)) = true := by rw [List.all_eq_true]; intro a _; simp [tupN]
  have hsr : shap 30 (tupN row) = true := by simp [tupN]
  have hin : inD (tupN row) (.list (rows.map tupN)) = .ok true := by
    rw [in_list _ _ (by rw [hsr, shaps_map, hsh2]; rfl), any_tup]
    simp [hm]
  have e1 : evS ⟨callP k81_P n k, k81_P.G, k81_P.io, k81_P.ff⟩ n [] false (.asg 2 (.bi .max [.comp (.bi .len [.var 3]) (.nm 3) .seq [.var 1] [] [3]])) [.sh (.tuple [.int (bestL rows), tupN row]), .sh (.list (rows.map tupN)), .un, .un] = .nx [.sh (.tuple [.int (bestL rows), tupN row]), .sh (.list (rows.map tupN)), .sh (.int (bestL rows)), .un] := by
    simp (maxDischargeDepth := 9) [zipIdx_map', eraseIdx_map', tail_map', drop_map', take_map', -List.map_tail, -List.map_drop, -List.map_take, -getElem?_pos, -getElem?_neg, -Int.natCast_shiftRight, -Nat.and_one_is_mod, -Int.natCast_pow, -Nat.one_and_eq_mod_two]
    rw [compE_eq (fun _ => true) (fun r : List Nat => PyData.int (r.length : Nat)) (by simp (maxDischargeDepth := 9) [zipIdx_map', eraseIdx_map', tail_map', drop_map', take_map', -List.map_tail, -List.map_drop, -List.map_take, -getElem?_pos, -getElem?_neg, -Int.natCast_shiftRight, -Nat.and_one_is_mod, -Int.natCast_pow, -Nat.one_and_eq_mod_two]) (by simp (maxDischargeDepth := 9) [zipIdx_map', eraseIdx_map', tail_map', drop_map', take_map', -List.map_tail, -List.map_drop, -List.map_take, -getElem?_pos, -getElem?_neg, -Int.natCast_shiftRight, -Nat.and_one_is_mod, -Int.natCast_pow, -Nat.one_and_eq_mod_two]) (by simp (maxDischargeDepth := 9) [zipIdx_map', eraseIdx_map', tail_map', drop_map', take_map', -List.map_tail, -List.map_drop, -List.map_take, -getElem?_pos, -getElem?_neg, -Int.natCast_shiftRight, -Nat.and_one_is_mod, -Int.natCast_pow, -Nat.one_and_eq_mod_two])]
    · simp (maxDischargeDepth := 9) [zipIdx_map', eraseIdx_map', tail_map', drop_map', take_map', -List.map_tail, -List.map_drop, -List.map_take, -getElem?_pos, -getElem?_neg, -Int.natCast_shiftRight, -Nat.and_one_is_mod, -Int.natCast_pow, -Nat.one_and_eq_mod_two, hb']
    · intro a ha
      refine ⟨_, rfl, ?_⟩
      simp (maxDischargeDepth := 9) [zipIdx_map', eraseIdx_map', tail_map', drop_map', take_map', -List.map_tail, -List.map_drop, -List.map_take, -getElem?_pos, -getElem?_neg, -Int.natCast_shiftRight, -Nat.and_one_is_mod, -Int.natCast_pow, -Nat.one_and_eq_mod_two, tupN, hsh]
  rw [C__law_best]
  refine fin_PO ?_
  refine PO_step e1 ?_
  refine PO_last (d := .bool true) (ρ1 := [.sh (.tuple [.int (bestL rows), tupN row]), .sh (.list (rows.map tupN)), .sh (.int (bestL rows)), .un]) ?_ rfl
  have hin' : inD (.tuple (List.map (fun x : Nat => PyData.int (x : Int)) row)) (.list (rows.map tupN)) = .ok true := hin
  simp (maxDischargeDepth := 9) [zipIdx_map', eraseIdx_map', tail_map', drop_map', take_map', -List.map_tail, -List.map_drop, -List.map_take, -getElem?_pos, -getElem?_neg, -Int.natCast_shiftRight, -Nat.and_one_is_mod, -Int.natCast_pow, -Nat.one_and_eq_mod_two, hl, hin', show tupN row = .tuple (List.map (fun x : Nat => PyData.int (x : Int)) row) from rfl]

theorem fall_succ (m : Int) (j : Nat) : fallN m (j + 1) = fallN m j * (m - (j : Int)) := by
  rw [fallN, List.range_succ, List.foldl_append]
  rfl
theorem fall_zero (m : Nat) : ∀ j : Nat, m < j → fallN (m : Int) j = 0
  | 0, h => absurd h (Nat.not_lt_zero _)
  | j + 1, h => by
    rw [fall_succ]
    by_cases c : m = j
    · subst c; simp
    · rw [fall_zero m j (by omega), Int.zero_mul]
theorem fall_pos (m : Nat) : ∀ j : Nat, j ≤ m → 0 < fallN (m : Int) j
  | 0, _ => by simp [fallN]
  | j + 1, h => by
    rw [fall_succ]
    exact Int.mul_pos (fall_pos m j (by omega)) (by omega)
theorem sum_zero {f : Nat → Int} : ∀ l : List Nat, (∀ j ∈ l, f j = 0) → (l.map f).sum = 0
  | [], _ => rfl
  | a :: l, h => by
    rw [List.map_cons, List.sum_cons, h a (by simp), sum_zero l fun j hj => h j (by simp [hj])]
    rfl
theorem sum_nn {f : Nat → Int} : ∀ l : List Nat, (∀ j ∈ l, 0 ≤ f j) → 0 ≤ (l.map f).sum
  | [], _ => by simp
  | a :: l, h => by
    rw [List.map_cons, List.sum_cons]
    have h1 := h a (by simp)
    have h2 := sum_nn l fun j hj => h j (by simp [hj])
    omega
theorem sum_pos {f : Nat → Int} : ∀ l : List Nat, (∀ j ∈ l, 0 ≤ f j) → ∀ q ∈ l, 0 < f q → 0 < (l.map f).sum
  | [], _, q, hq, _ => by cases hq
  | a :: l, h, q, hq, hp => by
    rw [List.map_cons, List.sum_cons]
    have h1 := h a (by simp)
    have h2 := sum_nn l fun j hj => h j (by simp [hj])
    rcases List.mem_cons.mp hq with e | hq
    · rw [e] at hp; omega
    · have := sum_pos l (fun j hj => h j (by simp [hj])) q hq hp
      omega
/-- the least number of colours, and what the law asks of it -/
theorem few_ok (fs : List Nat) (hF : Fam fs) : ∃ (q : Nat) (t : List Nat) (r : List Nat), (List.range ((pin (uni fs)).length + 1)).filter (fun j => decide (0 < cntG fs (pin (uni fs)) (rgN (pin (uni fs)).length) j)) = q :: t ∧ 1 ≤ q ∧ q ≤ 6 ∧ r.length = (pin (uni fs)).length ∧ ownR fs (pin (uni fs)) r = true ∧ maxN r + 1 = q ∧
    ((List.range ((pin (uni fs)).length + 1)).map fun j => (cntG fs (pin (uni fs)) (rgN (pin (uni fs)).length) j : Int) * fallN ((q : Int) - 1) j).sum = 0 ∧ ((List.range ((pin (uni fs)).length + 1)).map fun j => (cntG fs (pin (uni fs)) (rgN (pin (uni fs)).length) j : Int) * fallN (q : Int) j).sum ≠ 0 := by
  have h6 : (pin (uni fs)).length ≤ 6 := size_le (uni fs)
  have hpos := uni_pos hF
  have hid := id_rg (pin (uni fs)).length (by omega)
  have hio := id_own fs (pin (uni fs))
  have hro := rg_ok (pin (uni fs)).length (by omega)
  have hrm := rg_max (pin (uni fs)).length (by omega) hpos
  generalize pin (uni fs) = pts at *
  have pos_iff : ∀ j, 0 < cntG fs pts (rgN pts.length) j ↔ ∃ r ∈ rgN pts.length, ownR fs pts r = true ∧ maxN r + 1 = j := fun j => by
    rw [cntG, List.count_pos_iff]
    simp only [List.mem_map, List.mem_filter]
    constructor
    · rintro ⟨r, ⟨h1, h2⟩, h3⟩; exact ⟨r, h1, h2, h3⟩
    · rintro ⟨r, h1, h2, h3⟩; exact ⟨r, ⟨h1, h2⟩, h3⟩
  have hmem : maxN (List.range pts.length) + 1 ∈ (List.range (pts.length + 1)).filter (fun j => decide (0 < cntG fs pts (rgN pts.length) j)) :=
    List.mem_filter.mpr ⟨List.mem_range.mpr (by have := hrm _ hid; omega), decide_eq_true ((pos_iff _).mpr ⟨_, hid, hio, rfl⟩)⟩
  cases hL : (List.range (pts.length + 1)).filter (fun j => decide (0 < cntG fs pts (rgN pts.length) j)) with
  | nil => rw [hL] at hmem; cases hmem
  | cons q t =>
    have hq : q ∈ (List.range (pts.length + 1)).filter (fun j => decide (0 < cntG fs pts (rgN pts.length) j)) := by rw [hL]; simp
    obtain ⟨hq1, hq2⟩ := List.mem_filter.mp hq
    have hq3 := List.mem_range.mp hq1
    obtain ⟨r, r1, r2, r3⟩ := (pos_iff q).mp (of_decide_eq_true hq2)
    have hasc : (q :: t).Pairwise (· < ·) := by rw [← hL]; exact (range_asc _).filter _
    have hlow : ∀ j < q, cntG fs pts (rgN pts.length) j = 0 := fun j hj => by
      refine Nat.eq_zero_of_not_pos fun hp => ?_
      have : j ∈ q :: t := by
        rw [← hL]
        exact List.mem_filter.mpr ⟨List.mem_range.mpr (by omega), decide_eq_true hp⟩
      rcases List.mem_cons.mp this with e | e
      · omega
      · have := (List.pairwise_cons.mp hasc).1 j e
        omega
    refine ⟨q, t, r, rfl, by omega, by omega, (hro.1 r r1).1, r2, r3, sum_zero _ fun j _ => ?_, Int.ne_of_gt (sum_pos _ (fun j _ => ?_) q hq1 ?_)⟩
    · by_cases c : j < q
      · rw [hlow j c]; simp
      · rw [show (q : Int) - 1 = ((q - 1 : Nat) : Int) by omega, fall_zero (q - 1) j (by omega), Int.mul_zero]
    · by_cases c : j ≤ q
      · exact Int.mul_nonneg (by omega) (Int.le_of_lt (fall_pos q j c))
      · rw [fall_zero q j (by omega), Int.mul_zero]
        exact Int.le_refl 0
    · have := of_decide_eq_true hq2
      exact Int.mul_pos (by omega) (fall_pos q q (Nat.le_refl _))
abbrev CL (n k : Nat) : Cfg := ⟨callP k81_P n (k+7), k81_P.G, k81_P.io, k81_P.ff⟩
abbrev Yes (o : Out) : Prop := PO o (fun _ => False) (fun d _ => d = .bool true)
theorem falls81 (k : Nat) (v : D) (hv : v ∈ oddL) (w : Nat) (hw : w < 3) : callP k81_P n (k+7) "_law_falls" [.int w, v] = .ok (.bool true) [] := by
  have e := check_odd (n := n) (k+1) v hv
  have e0 : callP k81_P n (k+6) "greatest_alone" [v] = .ex "Malformed" .none [] := by simp (maxDischargeDepth := 9) [zipIdx_map', eraseIdx_map', tail_map', drop_map', take_map', -List.map_tail, -List.map_drop, -List.map_take, -getElem?_pos, -getElem?_neg, -Int.natCast_shiftRight, -Nat.and_one_is_mod, -Int.natCast_pow, -Nat.one_and_eq_mod_two, C_greatest_alone, k81_greatest_alone, e]
  have e1 : callP k81_P n (k+6) "greatest_lot" [v] = .ex "Malformed" .none [] := by simp (maxDischargeDepth := 9) [zipIdx_map', eraseIdx_map', tail_map', drop_map', take_map', -List.map_tail, -List.map_drop, -List.map_take, -getElem?_pos, -getElem?_neg, -Int.natCast_shiftRight, -Nat.and_one_is_mod, -Int.natCast_pow, -Nat.one_and_eq_mod_two, C_greatest_lot, k81_greatest_lot, e]
  have e2 : callP k81_P n (k+6) "kernel_counts" [v] = .ex "Malformed" .none [] := by simp (maxDischargeDepth := 9) [zipIdx_map', eraseIdx_map', tail_map', drop_map', take_map', -List.map_tail, -List.map_drop, -List.map_take, -getElem?_pos, -getElem?_neg, -Int.natCast_shiftRight, -Nat.and_one_is_mod, -Int.natCast_pow, -Nat.one_and_eq_mod_two, C_kernel_counts, k81_kernel_counts, e]
  match w, hw with
  | 0, _ => simp (maxDischargeDepth := 9) [zipIdx_map', eraseIdx_map', tail_map', drop_map', take_map', -List.map_tail, -List.map_drop, -List.map_take, -getElem?_pos, -getElem?_neg, -Int.natCast_shiftRight, -Nat.and_one_is_mod, -Int.natCast_pow, -Nat.one_and_eq_mod_two, C__law_falls, k81_law_falls, e0]
  | 1, _ => simp (maxDischargeDepth := 9) [zipIdx_map', eraseIdx_map', tail_map', drop_map', take_map', -List.map_tail, -List.map_drop, -List.map_take, -getElem?_pos, -getElem?_neg, -Int.natCast_shiftRight, -Nat.and_one_is_mod, -Int.natCast_pow, -Nat.one_and_eq_mod_two, C__law_falls, k81_law_falls, e1]
  | 2, _ => simp (maxDischargeDepth := 9) [zipIdx_map', eraseIdx_map', tail_map', drop_map', take_map', -List.map_tail, -List.map_drop, -List.map_take, -getElem?_pos, -getElem?_neg, -Int.natCast_shiftRight, -Nat.and_one_is_mod, -Int.natCast_pow, -Nat.one_and_eq_mod_two, C__law_falls, k81_law_falls, e2]
theorem l9 (k : Nat) (s0 s4 s5 s6 : Sl) (s : Dw) (fs : List Nat) (hF : Fam fs) (o7 o9 : Option D) (F : D) :
    Yes (evSs (CL n k) n [] false (k81_law.body.drop 9) [s0, .ow s.d, .sh (.tuple (List.map (fun x : Nat => PyData.int (x : Int)) fs)), .sh (.list (List.map (fun x : Nat => PyData.int (x : Int)) (pin (uni fs)))), s4, s5, s6, jn o7, .ow F, jn o9, .un, .un, .un, .un, .un, .un]) := by
  have hsb : PyData.strOk (Str.ofString "all") = true := by decide +kernel
  obtain ⟨q, t, r, h1, h2, h3, h4, h5, h6, h7, h8⟩ := few_ok fs hF
  have hp6 : (pin (uni fs)).length ≤ 6 := size_le (uni fs)
  have ef := few_sp (n := n) (k+1) fs hF q t h1
  obtain ⟨row, m1, m2, el⟩ := lot_sp (n := n) (k+2) fs hF
  have ea := alone_sp (n := n) (k+2) fs hF
  obtain ⟨b1, b2⟩ := long_best (rows := loneR fs) (some_nil _ _ _ (by simp))
  rw [b2] at ea
  have hle : bestL (lotR fs) ≤ q := by
    rw [lot_eq] at m1
    obtain ⟨m3, m4⟩ := List.mem_filter.mp m1
    rw [← m2, ← h6]
    exact lot_le (pts_nd fs) h4 h5 (sets_nodup fs row m3) (fun x hx => ((all_sz (uni fs) (pin (uni fs)) [] (by simp)).2 row m3).2 x hx) m4
  have hge := alone_ge h4 h5
  rw [h6] at hge
  have c1 := count_sp (n := n) (k+1) fs hF ((q : Int) - 1) (by omega) (by omega)
  have c2 := count_sp (n := n) (k+1) fs hF (q : Int) (by omega) (by omega)
  rw [h7] at c1
  generalize ((List.range ((pin (uni fs)).length + 1)).map fun j => (cntG fs (pin (uni fs)) (rgN (pin (uni fs)).length) j : Int) * fallN (q : Int) j).sum = S at *
  obtain ⟨v, u, eo, hv⟩ := odd_sp (n := n) (k+5) s
  have f : ∀ w : Nat, w < 3 → callP k81_P n (k+7) "_law_falls" [.int w, v] = .ok (.bool true) [] := fun w hw => falls81 (n := n) k v hv w hw
  have hr3 : ((List.range 3).all fun _ => true) = true := by decide
  have ha3 := bi_all (fun _ : Nat => true) (List.range 3)
  rw [hr3] at ha3
  have hmul : opD .mul (.int (q : Nat)) (.int (bestL (loneR fs) : Nat)) = .ok (.int ((q * bestL (loneR fs) : Nat) : Int)) := by
    have hsm : smallI (q : Int) = true := by simp [smallI]; omega
    simp [opD, hsm]
  generalize q * bestL (loneR fs) = QB at *
  have g1 : ¬ (q < bestL (lotR fs)) := by omega
  have g2 : ¬ (QB < (pin (uni fs)).length) := by omega
  refine PO_last (d := .bool true) (ρ1 := [s0, .ow u.d, .sh (.tuple (List.map (fun x : Nat => PyData.int (x : Int)) fs)), .sh (.list (List.map (fun x : Nat => PyData.int (x : Int)) (pin (uni fs)))), s4, s5, s6, jn o7, .ow F, jn o9, .un, .un, .un, .sh (.int q), .sh v, .un]) ?_ rfl
  simp (maxDischargeDepth := 9) [zipIdx_map', eraseIdx_map', tail_map', drop_map', take_map', -List.map_tail, -List.map_drop, -List.map_take, -getElem?_pos, -getElem?_neg, -Int.natCast_shiftRight, -Nat.and_one_is_mod, -Int.natCast_pow, -Nat.one_and_eq_mod_two, k81_law, hsb, ef, el, ea, c1, c2, eo, onlyIo, hmul, g1, g2, h8]
  rw [compE_eq (fun _ => true) (fun _ : Nat => PyData.bool true) (by simp (maxDischargeDepth := 9) [zipIdx_map', eraseIdx_map', tail_map', drop_map', take_map', -List.map_tail, -List.map_drop, -List.map_take, -getElem?_pos, -getElem?_neg, -Int.natCast_shiftRight, -Nat.and_one_is_mod, -Int.natCast_pow, -Nat.one_and_eq_mod_two]) (by simp (maxDischargeDepth := 9) [zipIdx_map', eraseIdx_map', tail_map', drop_map', take_map', -List.map_tail, -List.map_drop, -List.map_take, -getElem?_pos, -getElem?_neg, -Int.natCast_shiftRight, -Nat.and_one_is_mod, -Int.natCast_pow, -Nat.one_and_eq_mod_two]) (by simp (maxDischargeDepth := 9) [zipIdx_map', eraseIdx_map', tail_map', drop_map', take_map', -List.map_tail, -List.map_drop, -List.map_take, -getElem?_pos, -getElem?_neg, -Int.natCast_shiftRight, -Nat.and_one_is_mod, -Int.natCast_pow, -Nat.one_and_eq_mod_two])]
  · simp (maxDischargeDepth := 9) [zipIdx_map', eraseIdx_map', tail_map', drop_map', take_map', -List.map_tail, -List.map_drop, -List.map_take, -getElem?_pos, -getElem?_neg, -Int.natCast_shiftRight, -Nat.and_one_is_mod, -Int.natCast_pow, -Nat.one_and_eq_mod_two, -List.map_const, ha3]
  · intro a ha
    simp (maxDischargeDepth := 9) [zipIdx_map', eraseIdx_map', tail_map', drop_map', take_map', -List.map_tail, -List.map_drop, -List.map_take, -getElem?_pos, -getElem?_neg, -Int.natCast_shiftRight, -Nat.and_one_is_mod, -Int.natCast_pow, -Nat.one_and_eq_mod_two, f a (List.mem_range.mp ha)]

end S81

end
section
set_option linter.all false
set_option autoImplicit false
set_option maxRecDepth 100000
set_option Elab.async false
namespace S81
open PySem JK JK.JKS
variable {n : Nat}
theorem every_sp (k : Nat) (fs : List Nat) : callP k81_P n (k+1) "_law_every" [.tuple (List.map (fun x : Nat => PyData.int (x : Int)) fs)] = .ok (.list (List.map (fun x : Nat => PyData.int (x : Int)) (pin (uni fs)))) [] := by
  have e : ((List.range 6).filter fun a => fs.any fun b => b.testBit a) = pin (uni fs) := by
    rw [pin]
    congr 1; funext a
    exact (uni_bit fs a).symm
  simp (maxDischargeDepth := 9) [zipIdx_map', eraseIdx_map', tail_map', drop_map', take_map', -List.map_tail, -List.map_drop, -List.map_take, -getElem?_pos, -getElem?_neg, -Int.natCast_shiftRight, -Nat.and_one_is_mod, -Int.natCast_pow, -Nat.one_and_eq_mod_two, C__law_every, k81_law_every, e]

theorem intsD_nats : ∀ xs : List Nat, intsD (List.map (fun x : Nat => PyData.int (x : Int)) xs) = some (xs.map fun x : Nat => (x : Int))
  | [] => rfl
  | x :: xs => by
    rw [List.map_cons, intsD, intsD_nats xs]
    rfl
theorem count_cast (j : Nat) : ∀ xs : List Nat, (xs.map fun x : Nat => (x : Int)).count (j : Int) = xs.count j
  | [] => rfl
  | x :: xs => by
    rw [List.map_cons, List.count_cons, List.count_cons, count_cast j xs]
    congr 1
    by_cases c : x = j
    · subst c; simp
    · have : ¬ ((x : Int) = (j : Int)) := by omega
      simp [c, this]
theorem me_count (xs : List Nat) (j : Nat) : meD .count (.list (List.map (fun x : Nat => PyData.int (x : Int)) xs)) [.int (j : Int)] = .ok (.int (xs.count j : Nat)) := by
  simp only [meD, intsD_nats, count_cast]
def freeL (fs : List Nat) (rows : List (List Nat)) : List Nat := (rows.filter (freeR fs)).map List.length
theorem freeL_snoc (fs : List Nat) (rows : List (List Nat)) (r : List Nat) : freeL fs (rows ++ [r]) = if freeR fs r then freeL fs rows ++ [r.length] else freeL fs rows := by
  rw [freeL, List.filter_append, List.map_append]
  cases c : freeR fs r <;> simp [c, freeL]
theorem l8 (k : Nat) (s0 s4 s5 s6 : Sl) (s : Dw) (fs : List Nat) (hF : Fam fs) (o7 o9 : Option D) :
    Yes (evSs (CL n k) n [] false (k81_law.body.drop 8) [s0, .ow s.d, .sh (.tuple (List.map (fun x : Nat => PyData.int (x : Int)) fs)), .sh (.list (List.map (fun x : Nat => PyData.int (x : Int)) (pin (uni fs)))), s4, s5, s6, jn o7, .ow (.list (List.map (fun x : Nat => PyData.int (x : Int)) (freeL fs (setsR fs)))), jn o9, .un, .un, .un, .un, .un, .un]) := by
  have hp6 : (pin (uni fs)).length ≤ 6 := size_le (uni fs)
  have ek := kern_sp (n := n) (k+2) fs hF
  refine PO_steps 1 (b := k81_law.body.drop 8) (ρ1 := [s0, .ow s.d, .sh (.tuple (List.map (fun x : Nat => PyData.int (x : Int)) fs)), .sh (.list (List.map (fun x : Nat => PyData.int (x : Int)) (pin (uni fs)))), s4, s5, s6, jn o7, .ow (.list (List.map (fun x : Nat => PyData.int (x : Int)) (freeL fs (setsR fs)))), jn o9, .un, .un, .un, .un, .un, .un]) ?_ (l9 k s0 s4 s5 s6 s fs hF o7 o9 _)
  have hM : (pin (uni fs)).length + 1 ≤ 1000000 := by omega
  have hme : ∀ j : Nat, meD .count (.list (List.map (fun x : Nat => PyData.int (x : Int)) (freeL fs (setsR fs)))) [.int (j : Int)] = .ok (.int (cntF fs (setsR fs) j : Nat)) := fun j => me_count _ j
  have hrg : itemsD .rng [.int (((pin (uni fs)).length : Int) + 1)] = .ok ((List.range ((pin (uni fs)).length + 1)).map fun x : Nat => PyData.int (x : Int)) := by
    rw [it_rngN _ (by omega) (by omega)]
    rw [show (((pin (uni fs)).length : Int) + 1).toNat = (pin (uni fs)).length + 1 by omega]
  generalize cntF fs (setsR fs) = c at *
  have hsf : shap 100 (.list (List.map (fun x : Nat => PyData.int (x : Int)) (freeL fs (setsR fs)))) = true := by simp
  have hself : PyData.eqvAll ((List.range ((pin (uni fs)).length + 1)).map fun j : Nat => PyData.int (c j : Nat)) ((List.range ((pin (uni fs)).length + 1)).map fun j : Nat => PyData.int (c j : Nat)) = true := by
    have := eqvAll_nats ((List.range ((pin (uni fs)).length + 1)).map c) ((List.range ((pin (uni fs)).length + 1)).map c)
    rw [List.map_map] at this
    exact this.trans (by simp)
  rw [List.map_map] at ek
  replace ek : callP k81_P n (k+7) "kernel_counts" [.tuple (List.map (fun x : Nat => PyData.int (x : Int)) fs)] = .ok (.tuple ((List.range ((pin (uni fs)).length + 1)).map fun j : Nat => PyData.int (c j : Nat))) [] := ek
  generalize List.map (fun x : Nat => PyData.int (x : Int)) (freeL fs (setsR fs)) = FL at *
  simp (maxDischargeDepth := 9) [zipIdx_map', eraseIdx_map', tail_map', drop_map', take_map', -List.map_tail, -List.map_drop, -List.map_take, -getElem?_pos, -getElem?_neg, -Int.natCast_shiftRight, -Nat.and_one_is_mod, -Int.natCast_pow, -Nat.one_and_eq_mod_two, k81_law, ek, hrg]
  rw [compE_eq (fun _ => true) (fun j : Nat => PyData.int (c j : Nat)) (by simp (maxDischargeDepth := 9) [zipIdx_map', eraseIdx_map', tail_map', drop_map', take_map', -List.map_tail, -List.map_drop, -List.map_take, -getElem?_pos, -getElem?_neg, -Int.natCast_shiftRight, -Nat.and_one_is_mod, -Int.natCast_pow, -Nat.one_and_eq_mod_two]) (by simp (maxDischargeDepth := 9) [zipIdx_map', eraseIdx_map', tail_map', drop_map', take_map', -List.map_tail, -List.map_drop, -List.map_take, -getElem?_pos, -getElem?_neg, -Int.natCast_shiftRight, -Nat.and_one_is_mod, -Int.natCast_pow, -Nat.one_and_eq_mod_two]) (by simp (maxDischargeDepth := 9) [zipIdx_map', eraseIdx_map', tail_map', drop_map', take_map', -List.map_tail, -List.map_drop, -List.map_take, -getElem?_pos, -getElem?_neg, -Int.natCast_shiftRight, -Nat.and_one_is_mod, -Int.natCast_pow, -Nat.one_and_eq_mod_two])]
  · rw [filter_tt]
    simp (maxDischargeDepth := 9) [zipIdx_map', eraseIdx_map', tail_map', drop_map', take_map', -List.map_tail, -List.map_drop, -List.map_take, -getElem?_pos, -getElem?_neg, -Int.natCast_shiftRight, -Nat.and_one_is_mod, -Int.natCast_pow, -Nat.one_and_eq_mod_two, hself]
  · intro j hj
    refine ⟨_, rfl, ?_⟩
    simp (maxDischargeDepth := 9) [zipIdx_map', eraseIdx_map', tail_map', drop_map', take_map', -List.map_tail, -List.map_drop, -List.map_take, -getElem?_pos, -getElem?_neg, -Int.natCast_shiftRight, -Nat.and_one_is_mod, -Int.natCast_pow, -Nat.one_and_eq_mod_two, hme]
theorem l6 (k : Nat) (s0 s5 s6 : Sl) (s : Dw) (fs : List Nat) (hF : Fam fs) :
    Yes (evSs (CL n k) n [] false (k81_law.body.drop 6) [s0, .ow s.d, .sh (.tuple (List.map (fun x : Nat => PyData.int (x : Int)) fs)), .sh (.list (List.map (fun x : Nat => PyData.int (x : Int)) (pin (uni fs)))), .sh (.list ((setsR fs).map tupN)), s5, s6, .un, .un, .un, .un, .un, .un, .un, .un, .un]) := by
  obtain ⟨z1, z2⟩ := all_sz (uni fs) (pin (uni fs)) [] (by simp)
  rw [show (pin (uni fs)).foldl allS [[]] = setsR fs from rfl] at z1 z2
  refine PO_steps 1 (b := k81_law.body.drop 6) (ρ1 := [s0, .ow s.d, .sh (.tuple (List.map (fun x : Nat => PyData.int (x : Int)) fs)), .sh (.list (List.map (fun x : Nat => PyData.int (x : Int)) (pin (uni fs)))), .sh (.list ((setsR fs).map tupN)), s5, s6, .un, .ow (.list (List.map (fun x : Nat => PyData.int (x : Int)) (freeL fs []))), .un, .un, .un, .un, .un, .un, .un]) (by simp (maxDischargeDepth := 9) [zipIdx_map', eraseIdx_map', tail_map', drop_map', take_map', -List.map_tail, -List.map_drop, -List.map_take, -getElem?_pos, -getElem?_neg, -Int.natCast_shiftRight, -Nat.and_one_is_mod, -Int.natCast_pow, -Nat.one_and_eq_mod_two, k81_law, freshE, freeL]) ?_
  refine PO_for1 (xs := setsR fs) (g := tupN) (fun pre ρ => ∃ o7 o9, ρ = [s0, .ow s.d, .sh (.tuple (List.map (fun x : Nat => PyData.int (x : Int)) fs)), .sh (.list (List.map (fun x : Nat => PyData.int (x : Int)) (pin (uni fs)))), .sh (.list ((setsR fs).map tupN)), s5, s6, jn o7, .ow (.list (List.map (fun x : Nat => PyData.int (x : Int)) (freeL fs pre))), jn o9, .un, .un, .un, .un, .un, .un]) (d := .list ((setsR fs).map tupN)) (by simp (maxDischargeDepth := 9) [zipIdx_map', eraseIdx_map', tail_map', drop_map', take_map', -List.map_tail, -List.map_drop, -List.map_take, -getElem?_pos, -getElem?_neg, -Int.natCast_shiftRight, -Nat.and_one_is_mod, -Int.natCast_pow, -Nat.one_and_eq_mod_two]) rfl (tups_shap _) ⟨none, none, rfl⟩ ?_ ?_
  · rintro p r q hq ρ ⟨o7, o9, rfl⟩
    have hr : r ∈ setsR fs := by rw [hq]; simp
    have hpl : p.length ≤ 64 := by rw [hq, List.length_append] at z1; omega
    have hfl : (freeL fs p).length ≤ 64 := by
      have := List.length_filter_le (freeR fs) p
      rw [freeL, List.length_map]
      omega
    have hnd := sets_nodup fs r hr
    refine ⟨[s0, .ow s.d, .sh (.tuple (List.map (fun x : Nat => PyData.int (x : Int)) fs)), .sh (.list (List.map (fun x : Nat => PyData.int (x : Int)) (pin (uni fs)))), .sh (.list ((setsR fs).map tupN)), s5, s6, .sh (tupN r), .ow (.list (List.map (fun x : Nat => PyData.int (x : Int)) (freeL fs p))), jn o9, .un, .un, .un, .un, .un, .un], rfl, PO_end (ρ1 := [s0, .ow s.d, .sh (.tuple (List.map (fun x : Nat => PyData.int (x : Int)) fs)), .sh (.list (List.map (fun x : Nat => PyData.int (x : Int)) (pin (uni fs)))), .sh (.list ((setsR fs).map tupN)), s5, s6, .sh (tupN r), .ow (.list (List.map (fun x : Nat => PyData.int (x : Int)) (freeL fs (p ++ [r])))), .sh (.int (orN r)), .un, .un, .un, .un, .un, .un]) ?_ ⟨some (tupN r), some (.int (orN r)), rfl⟩⟩
    have hb := bi_sum (fun a : Nat => (a : Int)) (r.map fun j => 2 ^ j)
    rw [← sum_cast, ← orN_sum hnd, List.map_map] at hb
    replace hb : biD .sum [.list (r.map fun j : Nat => PyData.int ((2 ^ j : Nat) : Int))] = .ok (.int (orN r : Nat)) := hb
    have hx6 : ∀ x ∈ r, x ≤ 1000000 := fun x hx => by have := (mem_pin.mp ((z2 r hr).2 x hx)).1; omega
    have e1 : evS (CL n k) n [] false (.asg 9 (.bi .sum [.comp (.op .shl (.int 1) (.var 10)) (.nm 10) .seq [.var 7] [] [10]])) [s0, .ow s.d, .sh (.tuple (List.map (fun x : Nat => PyData.int (x : Int)) fs)), .sh (.list (List.map (fun x : Nat => PyData.int (x : Int)) (pin (uni fs)))), .sh (.list ((setsR fs).map tupN)), s5, s6, .sh (tupN r), .ow (.list (List.map (fun x : Nat => PyData.int (x : Int)) (freeL fs p))), jn o9, .un, .un, .un, .un, .un, .un] =
        .nx [s0, .ow s.d, .sh (.tuple (List.map (fun x : Nat => PyData.int (x : Int)) fs)), .sh (.list (List.map (fun x : Nat => PyData.int (x : Int)) (pin (uni fs)))), .sh (.list ((setsR fs).map tupN)), s5, s6, .sh (tupN r), .ow (.list (List.map (fun x : Nat => PyData.int (x : Int)) (freeL fs p))), .sh (.int (orN r)), .un, .un, .un, .un, .un, .un] := by
      generalize (setsR fs).map tupN = SR
      generalize List.map (fun x : Nat => PyData.int (x : Int)) (freeL fs p) = FL
      rw [tupN]
      simp (maxDischargeDepth := 9) [zipIdx_map', eraseIdx_map', tail_map', drop_map', take_map', -List.map_tail, -List.map_drop, -List.map_take, -getElem?_pos, -getElem?_neg, -Int.natCast_shiftRight, -Nat.and_one_is_mod, -Int.natCast_pow, -Nat.one_and_eq_mod_two]
      rw [compE_eq (fun _ => true) (fun j : Nat => PyData.int ((2 ^ j : Nat) : Int)) (by simp (maxDischargeDepth := 9) [zipIdx_map', eraseIdx_map', tail_map', drop_map', take_map', -List.map_tail, -List.map_drop, -List.map_take, -getElem?_pos, -getElem?_neg, -Int.natCast_shiftRight, -Nat.and_one_is_mod, -Int.natCast_pow, -Nat.one_and_eq_mod_two]) (by simp (maxDischargeDepth := 9) [zipIdx_map', eraseIdx_map', tail_map', drop_map', take_map', -List.map_tail, -List.map_drop, -List.map_take, -getElem?_pos, -getElem?_neg, -Int.natCast_shiftRight, -Nat.and_one_is_mod, -Int.natCast_pow, -Nat.one_and_eq_mod_two]) (by simp (maxDischargeDepth := 9) [zipIdx_map', eraseIdx_map', tail_map', drop_map', take_map', -List.map_tail, -List.map_drop, -List.map_take, -getElem?_pos, -getElem?_neg, -Int.natCast_shiftRight, -Nat.and_one_is_mod, -Int.natCast_pow, -Nat.one_and_eq_mod_two])]
      · rw [filter_tt]
        simp only [R.bd, R.out, rsAll, rs, hb, lift, Option.bind_some, Option.map_some]
        rfl
      · intro x hx
        have h := hx6 x hx
        refine ⟨_, rfl, ?_⟩
        simp (maxDischargeDepth := 9) [zipIdx_map', eraseIdx_map', tail_map', drop_map', take_map', -List.map_tail, -List.map_drop, -List.map_take, -getElem?_pos, -getElem?_neg, -Int.natCast_shiftRight, -Nat.and_one_is_mod, -Int.natCast_pow, -Nat.one_and_eq_mod_two, h]
    rw [evSs_cons', e1, sq_nx]
    have ha := bi_any (fun s : Nat => s &&& orN r == s) fs
    have hfr : freeR fs r = !(fs.any fun s => s &&& orN r == s) := rfl
    have hsn := freeL_snoc fs p r
    have hlk : lenOk (List.map (fun x : Nat => PyData.int (x : Int)) (freeL fs p)) = true := by simp only [lenOk, lim, List.length_map]; exact decide_eq_true (by omega)
    generalize (setsR fs).map tupN = SR at *
    cases hc : fs.any fun s => s &&& orN r == s with
    | true =>
      rw [hc] at ha hfr
      rw [hsn, hfr]
      simp (maxDischargeDepth := 9) [zipIdx_map', eraseIdx_map', tail_map', drop_map', take_map', -List.map_tail, -List.map_drop, -List.map_take, -getElem?_pos, -getElem?_neg, -Int.natCast_shiftRight, -Nat.and_one_is_mod, -Int.natCast_pow, -Nat.one_and_eq_mod_two, ha, tupN]
    | false =>
      rw [hc] at ha hfr
      rw [hsn, hfr]
      have hlk2 : (freeL fs p).length < 1000000 := by omega
      simp (maxDischargeDepth := 9) [zipIdx_map', eraseIdx_map', tail_map', drop_map', take_map', -List.map_tail, -List.map_drop, -List.map_take, -getElem?_pos, -getElem?_neg, -Int.natCast_shiftRight, -Nat.and_one_is_mod, -Int.natCast_pow, -Nat.one_and_eq_mod_two, ha, tupN, hlk, hlk2]
  · rintro ρ ⟨o7, o9, rfl⟩
    exact l8 k s0 _ s5 s6 s fs hF o7 o9
theorem law_holds (k : Nat) (hn : 100 ≤ n) (ns : List Int) (hl : ns.length ≤ 63) : ∃ ios, bodyC (CL n k) n k81_law [.list (ns.map PyData.int)] = .ok (.bool true) ios := by
  obtain ⟨s, e1⟩ := draw_sp (n := n) (k+6) ns hl
  obtain ⟨fs, t, e2, hF, _, _⟩ := family_sp (n := n) (k+3) hn s 8 (by decide) (by decide)
  replace e2 : callP k81_P n (k+7) "_law_family" [s.d, .int 8] = .ok (.tuple (List.map (fun x : Nat => PyData.int (x : Int)) fs)) [t.d] := e2
  have e3 := every_sp (n := n) (k+6) fs
  have e4 := lsets_sp (n := n) (k+6) fs
  obtain ⟨z1, z2⟩ := all_sz (uni fs) (pin (uni fs)) [] (by simp)
  rw [show (pin (uni fs)).foldl allS [[]] = setsR fs from rfl] at z1 z2
  refine ⟨[], ?_⟩
  rw [bodyC_eq rfl rfl rfl (fun i hi => by cases hi)]
  refine fin_PO0 ?_
  show PO (evSs (CL n k) n [] false k81_law.body [.sh (.list (ns.map PyData.int)), .un, .un, .un, .un, .un, .un, .un, .un, .un, .un, .un, .un, .un, .un, .un]) _ _
  refine PO_steps 4 (ρ1 := [.sh (.list (ns.map PyData.int)), .ow t.d, .sh (.tuple (List.map (fun x : Nat => PyData.int (x : Int)) fs)), .sh (.list (List.map (fun x : Nat => PyData.int (x : Int)) (pin (uni fs)))), .sh (.list ((setsR fs).map tupN)), .un, .un, .un, .un, .un, .un, .un, .un, .un, .un, .un]) (by
    generalize (setsR fs).map tupN = SR at *
    simp (maxDischargeDepth := 9) [zipIdx_map', eraseIdx_map', tail_map', drop_map', take_map', -List.map_tail, -List.map_drop, -List.map_take, -getElem?_pos, -getElem?_neg, -Int.natCast_shiftRight, -Nat.and_one_is_mod, -Int.natCast_pow, -Nat.one_and_eq_mod_two, k81_law, freshE, e1, e2, onlyIo, e3, e4]) ?_
  have hsh : ((setsR fs).all fun a => shap 98 (tupN a)) = true := by rw [List.all_eq_true]; intro a _; simp [tupN]
  have ha : ∀ r ∈ setsR fs, callP k81_P n (k+7) "_law_alone" [.tuple (List.map (fun x : Nat => PyData.int (x : Int)) fs), tupN r] = .ok (.bool (PW (farN fs) r)) [] := fun r hr => lalone_sp (n := n) (k+5) fs r fun x hx => (mem_pin.mp ((z2 r hr).2 x hx)).1
  have ht : ∀ r ∈ setsR fs, callP k81_P n (k+7) "_law_together" [.tuple (List.map (fun x : Nat => PyData.int (x : Int)) fs), tupN r] = .ok (.bool (PW (nearN fs) r)) [] := fun r hr => by
    have := ltog_sp (n := n) (k+5) fs r fun x hx => (mem_pin.mp ((z2 r hr).2 x hx)).1
    rwa [tog_eq (fun x hx => (z2 r hr).2 x hx)] at this
  have hlo : (loneR fs).map tupN = ((setsR fs).filter (PW (farN fs))).map tupN := by rw [lone_eq]
  have hlt : (lotR fs).map tupN = ((setsR fs).filter (PW (nearN fs))).map tupN := by rw [lot_eq]
  obtain ⟨row, m1, m2, el⟩ := lot_sp (n := n) (k+2) fs hF
  have ea := alone_sp (n := n) (k+2) fs hF
  obtain ⟨b1, b2⟩ := long_best (rows := loneR fs) (some_nil _ _ _ (by simp))
  rw [b2] at ea
  have q1 := lbest_sp (n := n) (k+6) (loneR fs) (longN (loneR fs) []) (some_ne _ _ _ (by simp)) b1 b2
  have q2 := lbest_sp (n := n) (k+6) (lotR fs) row (some_ne _ _ _ (by simp)) m1 m2
  have hsd : sameD (some [PyData.list ((setsR fs).map tupN)]) (some [PyData.list ((setsR fs).map tupN)]) = true := sameD_some _ (by rw [shaps_cons, tups_shap, shaps_nil]; rfl)
  have hsz : ((setsR fs).map tupN).length ≤ 100 := by rw [List.length_map]; omega
  have hc1 : evE (CL n k) (.comp (.var 7) (.nm 7) .seq [.var 4] [.call "_law_alone" [.var 2, .var 7]] [7]) [.sh (.list (ns.map PyData.int)), .ow t.d, .sh (.tuple (List.map (fun x : Nat => PyData.int (x : Int)) fs)), .sh (.list (List.map (fun x : Nat => PyData.int (x : Int)) (pin (uni fs)))), .sh (.list ((setsR fs).map tupN)), .un, .un, .un, .un, .un, .un, .un, .un, .un, .un, .un] = .ok (.list ((loneR fs).map tupN)) [.sh (.list (ns.map PyData.int)), .ow t.d, .sh (.tuple (List.map (fun x : Nat => PyData.int (x : Int)) fs)), .sh (.list (List.map (fun x : Nat => PyData.int (x : Int)) (pin (uni fs)))), .sh (.list ((setsR fs).map tupN)), .un, .un, .un, .un, .un, .un, .un, .un, .un, .un, .un] := by
    rw [hlo]
    simp (maxDischargeDepth := 9) [zipIdx_map', eraseIdx_map', tail_map', drop_map', take_map', -List.map_tail, -List.map_drop, -List.map_take, -getElem?_pos, -getElem?_neg, -Int.natCast_shiftRight, -Nat.and_one_is_mod, -Int.natCast_pow, -Nat.one_and_eq_mod_two]
    rw [compE_eq (PW (farN fs)) tupN (by simp (maxDischargeDepth := 9) [zipIdx_map', eraseIdx_map', tail_map', drop_map', take_map', -List.map_tail, -List.map_drop, -List.map_take, -getElem?_pos, -getElem?_neg, -Int.natCast_shiftRight, -Nat.and_one_is_mod, -Int.natCast_pow, -Nat.one_and_eq_mod_two]) (by simp (maxDischargeDepth := 9) [zipIdx_map', eraseIdx_map', tail_map', drop_map', take_map', -List.map_tail, -List.map_drop, -List.map_take, -getElem?_pos, -getElem?_neg, -Int.natCast_shiftRight, -Nat.and_one_is_mod, -Int.natCast_pow, -Nat.one_and_eq_mod_two]) (by simp (maxDischargeDepth := 9) [zipIdx_map', eraseIdx_map', tail_map', drop_map', take_map', -List.map_tail, -List.map_drop, -List.map_take, -getElem?_pos, -getElem?_neg, -Int.natCast_shiftRight, -Nat.and_one_is_mod, -Int.natCast_pow, -Nat.one_and_eq_mod_two])]
    · simp (maxDischargeDepth := 9) [zipIdx_map', eraseIdx_map', tail_map', drop_map', take_map', -List.map_tail, -List.map_drop, -List.map_take, -getElem?_pos, -getElem?_neg, -Int.natCast_shiftRight, -Nat.and_one_is_mod, -Int.natCast_pow, -Nat.one_and_eq_mod_two]
    · intro r hr
      have e := ha r hr
      refine ⟨_, rfl, ?_⟩
      simp (maxDischargeDepth := 9) [zipIdx_map', eraseIdx_map', tail_map', drop_map', take_map', -List.map_tail, -List.map_drop, -List.map_take, -getElem?_pos, -getElem?_neg, -Int.natCast_shiftRight, -Nat.and_one_is_mod, -Int.natCast_pow, -Nat.one_and_eq_mod_two, e, hsd]
  have hc2 : evE (CL n k) (.comp (.var 7) (.nm 7) .seq [.var 4] [.call "_law_together" [.var 2, .var 7]] [7]) [.sh (.list (ns.map PyData.int)), .ow t.d, .sh (.tuple (List.map (fun x : Nat => PyData.int (x : Int)) fs)), .sh (.list (List.map (fun x : Nat => PyData.int (x : Int)) (pin (uni fs)))), .sh (.list ((setsR fs).map tupN)), .un, .un, .un, .un, .un, .un, .un, .un, .un, .un, .un] = .ok (.list ((lotR fs).map tupN)) [.sh (.list (ns.map PyData.int)), .ow t.d, .sh (.tuple (List.map (fun x : Nat => PyData.int (x : Int)) fs)), .sh (.list (List.map (fun x : Nat => PyData.int (x : Int)) (pin (uni fs)))), .sh (.list ((setsR fs).map tupN)), .un, .un, .un, .un, .un, .un, .un, .un, .un, .un, .un] := by
    rw [hlt]
    simp (maxDischargeDepth := 9) [zipIdx_map', eraseIdx_map', tail_map', drop_map', take_map', -List.map_tail, -List.map_drop, -List.map_take, -getElem?_pos, -getElem?_neg, -Int.natCast_shiftRight, -Nat.and_one_is_mod, -Int.natCast_pow, -Nat.one_and_eq_mod_two]
    rw [compE_eq (PW (nearN fs)) tupN (by simp (maxDischargeDepth := 9) [zipIdx_map', eraseIdx_map', tail_map', drop_map', take_map', -List.map_tail, -List.map_drop, -List.map_take, -getElem?_pos, -getElem?_neg, -Int.natCast_shiftRight, -Nat.and_one_is_mod, -Int.natCast_pow, -Nat.one_and_eq_mod_two]) (by simp (maxDischargeDepth := 9) [zipIdx_map', eraseIdx_map', tail_map', drop_map', take_map', -List.map_tail, -List.map_drop, -List.map_take, -getElem?_pos, -getElem?_neg, -Int.natCast_shiftRight, -Nat.and_one_is_mod, -Int.natCast_pow, -Nat.one_and_eq_mod_two]) (by simp (maxDischargeDepth := 9) [zipIdx_map', eraseIdx_map', tail_map', drop_map', take_map', -List.map_tail, -List.map_drop, -List.map_take, -getElem?_pos, -getElem?_neg, -Int.natCast_shiftRight, -Nat.and_one_is_mod, -Int.natCast_pow, -Nat.one_and_eq_mod_two])]
    · simp (maxDischargeDepth := 9) [zipIdx_map', eraseIdx_map', tail_map', drop_map', take_map', -List.map_tail, -List.map_drop, -List.map_take, -getElem?_pos, -getElem?_neg, -Int.natCast_shiftRight, -Nat.and_one_is_mod, -Int.natCast_pow, -Nat.one_and_eq_mod_two]
    · intro r hr
      have e := ht r hr
      refine ⟨_, rfl, ?_⟩
      simp (maxDischargeDepth := 9) [zipIdx_map', eraseIdx_map', tail_map', drop_map', take_map', -List.map_tail, -List.map_drop, -List.map_take, -getElem?_pos, -getElem?_neg, -Int.natCast_shiftRight, -Nat.and_one_is_mod, -Int.natCast_pow, -Nat.one_and_eq_mod_two, e, hsd]
  refine PO_steps 2 (b := k81_law.body.drop 4) (ρ1 := [.sh (.list (ns.map PyData.int)), .ow t.d, .sh (.tuple (List.map (fun x : Nat => PyData.int (x : Int)) fs)), .sh (.list (List.map (fun x : Nat => PyData.int (x : Int)) (pin (uni fs)))), .sh (.list ((setsR fs).map tupN)), .sh (.list ((loneR fs).map tupN)), .sh (.list ((lotR fs).map tupN)), .un, .un, .un, .un, .un, .un, .un, .un, .un]) ?_ (l6 k _ _ _ t fs hF)
  generalize (loneR fs).map tupN = LA at *
  generalize (lotR fs).map tupN = LB at *
  generalize (setsR fs).map tupN = SR at *
  generalize tupN row = tr at *
  generalize tupN (longN (loneR fs) []) = tl at *
  simp (maxDischargeDepth := 9) [zipIdx_map', eraseIdx_map', tail_map', drop_map', take_map', -List.map_tail, -List.map_drop, -List.map_take, -getElem?_pos, -getElem?_neg, -Int.natCast_shiftRight, -Nat.and_one_is_mod, -Int.natCast_pow, -Nat.one_and_eq_mod_two, k81_law, -evE_comp, hc1, hc2, ea, el, q1, q2, parS]

end S81

end
section
set_option Elab.async false
set_option linter.all false
set_option autoImplicit false
set_option maxRecDepth 100000
/-! JkRep: a tree value stands in the abstract heap; the frame's invariant. -/
namespace JK
open PySem PySem.Spec L2
variable {K : PySem.W.Frag} {H H' : Hp} {P P' : Addr → Prop}

mutual
/-- v is the tree d in H; none of its objects lies in P -/
inductive Rep (K : PySem.W.Frag) (H : Hp) (P : Addr → Prop) : V → D → Prop
  | non : Rep K H P .non .none
  | bl (b : Bool) : Rep K H P (.bl b) (.bool b)
  | int (i : Int) : Rep K H P (.int i) (.int i)
  | str (x : Str) : Rep K H P (.str x) (.str x)
  | lst {a : Addr} {xs : List V} {ds : List D} : Rd H a (.lst xs) → ¬ P a → RepL K H P xs ds → Rep K H P (.ref a) (.list ds)
  | tup {a : Addr} {xs : List V} {ds : List D} : SqT K H a xs → ¬ P a → RepL K H P xs ds → Rep K H P (.ref a) (.tuple ds)
inductive RepL (K : PySem.W.Frag) (H : Hp) (P : Addr → Prop) : List V → List D → Prop
  | nil : RepL K H P [] []
  | cons {v : V} {vs : List V} {d : D} {ds : List D} : Rep K H P v d → RepL K H P vs ds → RepL K H P (v :: vs) (d :: ds)
end

theorem rd_keep {a : Addr} {u : HO} (k : ∀ o, H a = some o → H' a = some o) (h : Rd H a u) : Rd H' a u := by
  rcases h with h | ⟨o, h⟩
  · exact .inl (k _ h)
  · exact .inr ⟨o, k _ h⟩
theorem sqT_keep {a : Addr} {xs : List V} (k : ∀ o, H a = some o → H' a = some o) (h : SqT K H a xs) : SqT K H' a xs := by
  rcases h with (h | ⟨o, h⟩) | h
  · exact .inl (.inl (k _ h))
  · exact .inl (.inr ⟨o, k _ h⟩)
  · exact .inr h
mutual
theorem Rep.imp (k : ∀ a o, ¬ P a → H a = some o → H' a = some o) (p : ∀ a xs, ¬ P a → (Rd H a (.lst xs) ∨ SqT K H a xs) → ¬ P' a) : ∀ (d : D) (v : V), Rep K H P v d → Rep K H' P' v d
  | .none, _, h => by cases h; exact .non
  | .bool b, _, h => by cases h; exact .bl b
  | .int i, _, h => by cases h; exact .int i
  | .str s, _, h => by cases h; exact .str s
  | .list ds, _, h => by
    cases h with
    | lst h1 h2 h3 => exact .lst (rd_keep (fun o e => k _ o h2 e) h1) (p _ _ h2 (.inl h1)) (RepL.imp k p ds _ h3)
  | .tuple ds, _, h => by
    cases h with
    | tup h1 h2 h3 => exact .tup (sqT_keep (fun o e => k _ o h2 e) h1) (p _ _ h2 (.inr h1)) (RepL.imp k p ds _ h3)
  | .dict _, _, h => by cases h
theorem RepL.imp (k : ∀ a o, ¬ P a → H a = some o → H' a = some o) (p : ∀ a xs, ¬ P a → (Rd H a (.lst xs) ∨ SqT K H a xs) → ¬ P' a) : ∀ (ds : List D) (vs : List V), RepL K H P vs ds → RepL K H' P' vs ds
  | [], _, h => by cases h; exact .nil
  | d :: ds, _, h => by
    cases h with
    | cons h1 h2 => exact .cons (Rep.imp k p d _ h1) (RepL.imp k p ds _ h2)
end
/-- every object that was there is there -/
abbrev Al (H H' : Hp) : Prop := ∀ a o, H a = some o → H' a = some o
theorem Al.refl (H : Hp) : Al H H := fun _ _ h => h
theorem Al.trans {H1 H2 H3 : Hp} (a : Al H1 H2) (b : Al H2 H3) : Al H1 H3 := fun x o h => b x o (a x o h)
theorem Al.upd {H : Hp} {p : Addr} {o : HO} (h : H p = none) : Al H (upd H p o) := fun a u e => by
  rw [upd_ne (ne_of_none e h)]
  exact e
theorem Rep.al {v : V} {d : D} (h : Rep K H P v d) (k : Al H H') : Rep K H' P v d := Rep.imp (fun a o _ e => k a o e) (fun _ _ n _ => n) d v h
theorem RepL.al {v : List V} {d : List D} (h : RepL K H P v d) (k : Al H H') : RepL K H' P v d := RepL.imp (fun a o _ e => k a o e) (fun _ _ n _ => n) d v h
theorem Rep.sub {v : V} {d : D} (h : Rep K H P v d) (s : ∀ a, P' a → P a) : Rep K H P' v d := Rep.imp (fun a o _ e => e) (fun a _ n _ q => n (s a q)) d v h
theorem RepL.sub {v : List V} {d : List D} (h : RepL K H P v d) (s : ∀ a, P' a → P a) : RepL K H P' v d := RepL.imp (fun a o _ e => e) (fun a _ n _ q => n (s a q)) d v h
theorem RepL.length : ∀ {vs : List V} {ds : List D}, RepL K H P vs ds → vs.length = ds.length
  | _, _, .nil => rfl
  | _, _, .cons _ t => congrArg Nat.succ (RepL.length t)
theorem RepL.get : ∀ {vs : List V} {ds : List D} {i : Nat} {d : D}, RepL K H P vs ds → ds[i]? = some d → ∃ v, vs[i]? = some v ∧ Rep K H P v d
  | _, _, _, _, .nil, e => by simp at e
  | _, _, 0, _, .cons r _, e => by simp at e; subst e; exact ⟨_, rfl, r⟩
  | _, _, i + 1, d, .cons _ t, e => by
    obtain ⟨v, h1, h2⟩ := RepL.get (i := i) (d := d) t (by simpa using e)
    exact ⟨v, by simpa using h1, h2⟩
theorem RepL.getV : ∀ {vs : List V} {ds : List D} {i : Nat} {v : V}, RepL K H P vs ds → vs[i]? = some v → ∃ d, ds[i]? = some d ∧ Rep K H P v d
  | _, _, _, _, .nil, e => by simp at e
  | _, _, 0, _, .cons r _, e => by simp at e; subst e; exact ⟨_, rfl, r⟩
  | _, _, i + 1, d, .cons _ t, e => by
    obtain ⟨v, h1, h2⟩ := RepL.getV (i := i) (v := d) t (by simpa using e)
    exact ⟨v, by simpa using h1, h2⟩
theorem RepL.append : ∀ {vs ws : List V} {ds es : List D}, RepL K H P vs ds → RepL K H P ws es → RepL K H P (vs ++ ws) (ds ++ es)
  | _, _, _, _, .nil, s => s
  | _, _, _, _, .cons r t, s => .cons r (RepL.append t s)
theorem RepL.take : ∀ {vs : List V} {ds : List D} (n : Nat), RepL K H P vs ds → RepL K H P (vs.take n) (ds.take n)
  | _, _, 0, _ => .nil
  | _, _, _ + 1, .nil => .nil
  | _, _, n + 1, .cons r t => .cons r (RepL.take n t)
theorem RepL.drop : ∀ {vs : List V} {ds : List D} (n : Nat), RepL K H P vs ds → RepL K H P (vs.drop n) (ds.drop n)
  | _, _, 0, r => r
  | _, _, _ + 1, .nil => .nil
  | _, _, n + 1, .cons _ t => RepL.drop n t
theorem RepL.set {x : V} {d : D} (r : Rep K H P x d) : ∀ {xs : List V} {ds : List D} (i : Nat), RepL K H P xs ds → RepL K H P (xs.set i x) (ds.set i d)
  | _, _, _, .nil => .nil
  | _, _, 0, .cons _ t => .cons r t
  | _, _, i + 1, .cons q t => .cons q (RepL.set r i t)
theorem RepL.eraseIdx : ∀ {xs : List V} {ds : List D} (i : Nat), RepL K H P xs ds → RepL K H P (xs.eraseIdx i) (ds.eraseIdx i)
  | _, _, _, .nil => .nil
  | _, _, 0, .cons _ t => t
  | _, _, i + 1, .cons q t => .cons q (RepL.eraseIdx i t)
theorem RepL.reverse : ∀ {vs : List V} {ds : List D}, RepL K H P vs ds → RepL K H P vs.reverse ds.reverse
  | _, _, .nil => .nil
  | _, _, .cons r t => by
    rw [List.reverse_cons, List.reverse_cons]
    exact (RepL.reverse t).append (.cons r .nil)
theorem RepL.rep {vs : List V} {ds : List D} (r : RepL K H P vs ds) : ∀ k : Nat, RepL K H P (List.replicate k vs).flatten (List.replicate k ds).flatten
  | 0 => .nil
  | k + 1 => by
    rw [List.replicate_succ, List.replicate_succ, List.flatten_cons, List.flatten_cons]
    exact r.append (RepL.rep r k)
theorem RepL.snoc {vs : List V} {ds : List D} {v : V} {d : D} (h : RepL K H P vs ds) (r : Rep K H P v d) : RepL K H P (vs ++ [v]) (ds ++ [d]) := h.append (.cons r .nil)
theorem RepL.intsV : ∀ {ds : List D} {vs : List V} {ns : List Int}, RepL K H P vs ds → intsD ds = some ns → vs = ns.map V.int
  | [], _, ns, h, e => by
    cases h
    simp [JK.intsD] at e
    subst e
    rfl
  | d :: ds, _, ns, h, e => by
    cases h with
    | cons r t =>
      cases d with
      | int i =>
        cases r
        simp only [JK.intsD, Option.map_eq_some_iff] at e
        obtain ⟨m, e1, rfl⟩ := e
        rw [RepL.intsV t e1]
        rfl
      | _ => simp [JK.intsD] at e
theorem RepL.boolsV : ∀ {ds : List D} {vs : List V} {ns : List Bool}, RepL K H P vs ds → boolsD ds = some ns → vs = ns.map V.bl
  | [], _, ns, h, e => by
    cases h
    simp [JK.boolsD] at e
    subst e
    rfl
  | d :: ds, _, ns, h, e => by
    cases h with
    | cons r t =>
      cases d with
      | bool i =>
        cases r
        simp only [JK.boolsD, Option.map_eq_some_iff] at e
        obtain ⟨m, e1, rfl⟩ := e
        rw [RepL.boolsV t e1]
        rfl
      | _ => simp [JK.boolsD] at e
theorem repL_ints : ∀ (ns : List Int), RepL K H P (ns.map V.int) (ns.map PyData.int)
  | [] => .nil
  | i :: r => .cons (.int i) (repL_ints r)
mutual
theorem Rep.dp : ∀ (d : D) (v : V), Rep K H P v d → Dp K H v d
  | .none, _, h => by cases h; exact .non
  | .bool b, _, h => by cases h; exact .bl b
  | .int i, _, h => by cases h; exact .int i
  | .str s, _, h => by cases h; exact .str s
  | .list ds, _, h => by
    cases h with
    | lst h1 h2 h3 => exact .lst (.inl h1) (RepL.dp ds _ h3)
  | .tuple ds, _, h => by
    cases h with
    | tup h1 h2 h3 => exact .tup h1 (RepL.dp ds _ h3)
  | .dict _, _, h => by cases h
theorem RepL.dp : ∀ (ds : List D) (vs : List V), RepL K H P vs ds → DpAll K H vs ds
  | [], _, h => by cases h; exact .nil
  | d :: ds, _, h => by
    cases h with
    | cons h1 h2 => exact .cons (Rep.dp d _ h1) (RepL.dp ds _ h2)
end
/-- .. where the list itself may lie in P -/
inductive RepC (K : PySem.W.Frag) (H : Hp) (P : Addr → Prop) : V → D → Prop
  | cl {v : V} {d : D} : Rep K H P v d → RepC K H P v d
  | top {a : Addr} {xs : List V} {ds : List D} : Rd H a (.lst xs) → RepL K H P xs ds → RepC K H P (.ref a) (.list ds)
theorem RepC.lst {v : V} {ds : List D} (h : RepC K H P v (.list ds)) : ∃ a xs, v = .ref a ∧ Rd H a (.lst xs) ∧ RepL K H P xs ds := by
  cases h with
  | cl h =>
    cases h with
    | lst h1 h2 h3 => exact ⟨_, _, rfl, h1, h3⟩
  | top h1 h3 => exact ⟨_, _, rfl, h1, h3⟩
theorem RepC.tup {v : V} {ds : List D} (h : RepC K H P v (.tuple ds)) : ∃ a xs, v = .ref a ∧ SqT K H a xs ∧ ¬ P a ∧ RepL K H P xs ds := by
  cases h with
  | cl h =>
    cases h with
    | tup h1 h2 h3 => exact ⟨_, _, rfl, h1, h2, h3⟩
theorem RepC.int {v : V} {i : Int} (h : RepC K H P v (.int i)) : v = .int i := by
  cases h with
  | cl h => cases h; rfl
theorem RepC.bl {v : V} {i : Bool} (h : RepC K H P v (.bool i)) : v = .bl i := by
  cases h with
  | cl h => cases h; rfl
theorem RepC.str {v : V} {i : Str} (h : RepC K H P v (.str i)) : v = .str i := by
  cases h with
  | cl h => cases h; rfl
theorem RepC.non {v : V} (h : RepC K H P v .none) : v = .non := by
  cases h with
  | cl h => cases h; rfl
theorem RepC.dp {v : V} {d : D} (h : RepC K H P v d) : Dp K H v d := by
  cases h with
  | cl h => exact Rep.dp d v h
  | top h1 h3 => exact .lst (.inl h1) (RepL.dp _ _ h3)
theorem RepC.al {v : V} {d : D} (h : RepC K H P v d) (k : Al H H') : RepC K H' P v d := by
  cases h with
  | cl h => exact .cl (h.al k)
  | top h1 h3 => exact .top (rd_keep (fun o e => k _ o e) h1) (h3.al k)

/-! ### the frame -/
abbrev Am := Nat → Option Addr
/-- what no plain value may touch -/
def PU (P0 : Addr → Prop) (α : Am) : Addr → Prop := fun a => P0 a ∨ ∃ i, α i = some a
/-- the list d stands at a, its items out of P -/
def Hol (K : PySem.W.Frag) (H : Hp) (P : Addr → Prop) (a : Addr) (d : D) : Prop := ∃ xs ds, d = .list ds ∧ H a = some (.lst xs) ∧ RepL K H P xs ds
structure FI (K : PySem.W.Frag) (P0 : Addr → Prop) (α : Am) (ρ : Ev) (σ : L2.St) (H : Hp) : Prop where
  len : ρ.length = σ.length
  sh : ∀ (i : Nat) (d : D), ρ[i]? = some (.sh d) → ∃ v, σ[i]? = some (some v) ∧ Rep K H (PU P0 α) v d
  ow : ∀ (i : Nat) (d : D), ρ[i]? = some (.ow d) → ∃ a, α i = some a ∧ σ[i]? = some (some (.ref a)) ∧ Hol K H (PU P0 α) a d
  al : ∀ (i : Nat) (a : Addr), α i = some a → ∃ d : D, ρ[i]? = some (.ow d)
  inj : ∀ i j a, α i = some a → α j = some a → i = j
  p0 : ∀ a, P0 a → (∃ o, H a = some o) ∧ ∀ i, α i ≠ some a
/-- an expression has run -/
structure Ex1 (α : Am) (H : Hp) (α' : Am) (H' : Hp) : Prop where
  keep : ∀ a o, H a = some o → (∀ i, α i ≠ some a) → H' a = some o
  le : ∀ i a, α' i = some a → α i = some a
  there : ∀ a, (∃ o, H a = some o) → ∃ o, H' a = some o
theorem Ex1.refl {α : Am} {H : Hp} : Ex1 α H α H := ⟨fun _ _ h _ => h, fun _ _ h => h, fun _ h => h⟩
theorem Ex1.trans {α1 α2 α3 : Am} {H1 H2 H3 : Hp} (a : Ex1 α1 H1 α2 H2) (b : Ex1 α2 H2 α3 H3) : Ex1 α1 H1 α3 H3 :=
  ⟨fun x o h n => b.keep x o (a.keep x o h n) fun i e => n i (a.le i x e), fun i x e => a.le i x (b.le i x e), fun x h => b.there x (a.there x h)⟩
theorem Ex1.al {α : Am} {H H' : Hp} (k : Al H H') : Ex1 α H α H' := ⟨fun a o h _ => k a o h, fun _ _ h => h, fun a ⟨o, h⟩ => ⟨o, k a o h⟩⟩
theorem Rep.ex1 {P0 : Addr → Prop} {α α' : Am} {v : V} {d : D} (h : Rep K H (PU P0 α) v d) (x : Ex1 α H α' H') : Rep K H' (PU P0 α') v d :=
  Rep.imp (fun a o n e => x.keep a o e fun i q => n (.inr ⟨i, q⟩)) (fun a _ n _ q => n (q.imp id fun ⟨i, e⟩ => ⟨i, x.le i a e⟩)) d v h
theorem RepL.ex1 {P0 : Addr → Prop} {α α' : Am} {v : List V} {d : List D} (h : RepL K H (PU P0 α) v d) (x : Ex1 α H α' H') : RepL K H' (PU P0 α') v d :=
  RepL.imp (fun a o n e => x.keep a o e fun i q => n (.inr ⟨i, q⟩)) (fun a _ n _ q => n (q.imp id fun ⟨i, e⟩ => ⟨i, x.le i a e⟩)) d v h
section
variable {P0 : Addr → Prop} {α α' : Am} {ρ : Ev} {σ : L2.St}
theorem FI.pu (f : FI K P0 α ρ σ H) : ∀ a, PU P0 α a → ∃ o, H a = some o := fun a h => by
  rcases h with h | ⟨i, h⟩
  · exact (f.p0 a h).1
  · obtain ⟨d, e⟩ := f.al i a h
    obtain ⟨a', e1, _, xs, ds, _, e2, _⟩ := f.ow i d e
    rw [h] at e1
    cases e1
    exact ⟨_, e2⟩
/-- new objects -/
theorem FI.alloc (f : FI K P0 α ρ σ H) (k : Al H H') : FI K P0 α ρ σ H' := by
  refine ⟨f.len, fun i d e => ?_, fun i d e => ?_, f.al, f.inj, fun a h => ?_⟩
  · obtain ⟨v, h1, h2⟩ := f.sh i d e
    exact ⟨v, h1, h2.al k⟩
  · obtain ⟨a, h1, h2, xs, ds, h3, h4, h5⟩ := f.ow i d e
    exact ⟨a, h1, h2, xs, ds, h3, k _ _ h4, h5.al k⟩
  · obtain ⟨⟨o, h1⟩, h2⟩ := f.p0 a h
    exact ⟨⟨o, k _ _ h1⟩, h2⟩
/-- .. the new object is nobody's: it may be added to what is shut out -/
theorem FI.allocP {p : Addr} {o : HO} (f : FI K P0 α ρ σ H) (hp : H p = none) (hk : ∀ o, K.lookup p = some o → False) : FI K (fun a => P0 a ∨ a = p) α ρ σ (upd H p o) := by
  have k : Al H (upd H p o) := Al.upd hp
  have hne : ∀ a xs, (Rd H a (.lst xs) ∨ SqT K H a xs) → a ≠ p := fun a xs h e => by
    subst e
    rcases h with (h | ⟨_, h⟩) | ((h | ⟨_, h⟩) | ⟨_, _, _, h, _⟩)
    · rw [hp] at h; cases h
    · rw [hp] at h; cases h
    · rw [hp] at h; cases h
    · rw [hp] at h; cases h
    · exact hk _ h
  have pp : ∀ a xs, ¬ PU P0 α a → (Rd H a (.lst xs) ∨ SqT K H a xs) → ¬ PU (fun a => P0 a ∨ a = p) α a := fun a xs n h q => by
    rcases q with (q | q) | q
    · exact n (.inl q)
    · exact hne a xs h q
    · exact n (.inr q)
  refine ⟨f.len, fun i d e => ?_, fun i d e => ?_, f.al, f.inj, fun a h => ?_⟩
  · obtain ⟨v, h1, h2⟩ := f.sh i d e
    exact ⟨v, h1, Rep.imp (fun a o _ q => k a o q) pp d v h2⟩
  · obtain ⟨a, h1, h2, xs, ds, h3, h4, h5⟩ := f.ow i d e
    exact ⟨a, h1, h2, xs, ds, h3, k _ _ h4, RepL.imp (fun a o _ q => k a o q) pp ds xs h5⟩
  · rcases h with h | h
    · obtain ⟨⟨o, h1⟩, h2⟩ := f.p0 a h
      exact ⟨⟨o, k _ _ h1⟩, h2⟩
    · subst h
      refine ⟨⟨_, upd_same⟩, fun i e => ?_⟩
      obtain ⟨o, q⟩ := f.pu a (.inr ⟨i, e⟩)
      rw [hp] at q
      cases q
theorem FI.weakP {P1 : Addr → Prop} (f : FI K P1 α ρ σ H) (s : ∀ a, P0 a → P1 a) : FI K P0 α ρ σ H := by
  have ps : ∀ a, PU P0 α a → PU P1 α a := fun a h => h.imp (s a) id
  refine ⟨f.len, fun i d e => ?_, fun i d e => ?_, f.al, f.inj, fun a h => f.p0 a (s a h)⟩
  · obtain ⟨v, h1, h2⟩ := f.sh i d e
    exact ⟨v, h1, h2.sub ps⟩
  · obtain ⟨a, h1, h2, xs, ds, h3, h4, h5⟩ := f.ow i d e
    exact ⟨a, h1, h2, xs, ds, h3, h4, h5.sub ps⟩
def delA (α : Am) (i : Nat) : Am := fun j => if j = i then none else α j
theorem delA_le {α : Am} {i j : Nat} {a : Addr} (h : delA α i j = some a) : α j = some a ∧ j ≠ i := by
  unfold delA at h
  split at h
  · cases h
  · exact ⟨h, by assumption⟩
theorem pu_del {a : Addr} {i : Nat} (h : PU P0 (delA α i) a) : PU P0 α a := h.imp id fun ⟨j, e⟩ => ⟨j, (delA_le e).1⟩
/-- a plain value is stored at a slot -/
theorem FI.setSh {i : Nat} {v : V} {d : D} (f : FI K P0 α ρ σ H) (hi : i < σ.length) (r : Rep K H (PU P0 α) v d) : FI K P0 (delA α i) (ρ.set i (.sh d)) (σ.set i (some v)) H := by
  refine ⟨by simp [f.len], fun j e h => ?_, fun j e h => ?_, fun j a h => ?_, fun j k a h1 h2 => f.inj j k a (delA_le h1).1 (delA_le h2).1, fun a h => ?_⟩
  · by_cases hj : i = j
    · subst hj
      rw [List.getElem?_set_self (by rw [f.len]; exact hi)] at h
      cases h
      exact ⟨v, by rw [List.getElem?_set_self hi], r.sub fun a => pu_del⟩
    · rw [List.getElem?_set_ne hj] at h
      obtain ⟨w, h1, h2⟩ := f.sh j e h
      exact ⟨w, by rw [List.getElem?_set_ne hj]; exact h1, h2.sub fun a => pu_del⟩
  · by_cases hj : i = j
    · subst hj
      rw [List.getElem?_set_self (by rw [f.len]; exact hi)] at h
      cases h
    · rw [List.getElem?_set_ne hj] at h
      obtain ⟨a, h1, h2, xs, ds, h3, h4, h5⟩ := f.ow j e h
      refine ⟨a, ?_, by rw [List.getElem?_set_ne hj]; exact h2, xs, ds, h3, h4, h5.sub fun a => pu_del⟩
      unfold delA
      rw [if_neg (Ne.symm hj)]
      exact h1
  · obtain ⟨h1, h2⟩ := delA_le h
    obtain ⟨d, e⟩ := f.al j a h1
    exact ⟨d, by rw [List.getElem?_set_ne (Ne.symm h2)]; exact e⟩
  · obtain ⟨h1, h2⟩ := f.p0 a h
    exact ⟨h1, fun j e => h2 j (delA_le e).1⟩
/-- a slot is forgotten -/
theorem FI.setUn {i : Nat} {s : Sl} {v : Option V} (f : FI K P0 α ρ σ H) (hs : s = .un ∨ ∃ c d, s = .xn c d) : FI K P0 (delA α i) (ρ.set i s) (σ.set i v) H := by
  have ns : ∀ d, s ≠ .sh d := fun d e => by rcases hs with h | ⟨_, _, h⟩ <;> rw [h] at e <;> cases e
  have no : ∀ d, s ≠ .ow d := fun d e => by rcases hs with h | ⟨_, _, h⟩ <;> rw [h] at e <;> cases e
  have self : ∀ {x : Sl}, (ρ.set i s)[i]? = some x → x = s := fun {x} h => by
    by_cases hi : i < ρ.length
    · rw [List.getElem?_set_self hi] at h
      exact (Option.some.inj h).symm
    · rw [List.getElem?_eq_none (by simpa using hi)] at h
      cases h
  refine ⟨by simp [f.len], fun j e h => ?_, fun j e h => ?_, fun j a h => ?_, fun j k a h1 h2 => f.inj j k a (delA_le h1).1 (delA_le h2).1, fun a h => ?_⟩
  · by_cases hj : i = j
    · subst hj
      exact absurd (self h).symm (ns e)
    · rw [List.getElem?_set_ne hj] at h
      obtain ⟨w, h1, h2⟩ := f.sh j e h
      exact ⟨w, by rw [List.getElem?_set_ne hj]; exact h1, h2.sub fun a => pu_del⟩
  · by_cases hj : i = j
    · subst hj
      exact absurd (self h).symm (no e)
    · rw [List.getElem?_set_ne hj] at h
      obtain ⟨a, h1, h2, xs, ds, h3, h4, h5⟩ := f.ow j e h
      refine ⟨a, ?_, by rw [List.getElem?_set_ne hj]; exact h2, xs, ds, h3, h4, h5.sub fun a => pu_del⟩
      unfold delA
      rw [if_neg (Ne.symm hj)]
      exact h1
  · obtain ⟨h1, h2⟩ := delA_le h
    obtain ⟨d, e⟩ := f.al j a h1
    exact ⟨d, by rw [List.getElem?_set_ne (Ne.symm h2)]; exact e⟩
  · obtain ⟨h1, h2⟩ := f.p0 a h
    exact ⟨h1, fun j e => h2 j (delA_le e).1⟩
def putA (α : Am) (i : Nat) (a : Addr) : Am := fun j => if j = i then some a else α j
/-- a list of nobody's becomes a slot's own -/
theorem FI.setOw {i : Nat} {a : Addr} {d : D} (f : FI K (fun b => P0 b ∨ b = a) α ρ σ H) (hP : ¬ P0 a) (hi : i < σ.length) (h : Hol K H (PU (fun b => P0 b ∨ b = a) α) a d) :
    FI K P0 (putA α i a) (ρ.set i (.ow d)) (σ.set i (some (.ref a))) H := by
  have ps : ∀ b, PU P0 (putA α i a) b → PU (fun b => P0 b ∨ b = a) α b := fun b q => by
    rcases q with q | ⟨j, q⟩
    · exact .inl (.inl q)
    · unfold putA at q
      split at q
      · cases q; exact .inl (.inr rfl)
      · exact .inr ⟨j, q⟩
  have na : ∀ j, α j ≠ some a := fun j => (f.p0 a (.inr rfl)).2 j
  refine ⟨by simp [f.len], fun j e h' => ?_, fun j e h' => ?_, fun j b h' => ?_, fun j k b h1 h2 => ?_, fun b hb => ?_⟩
  · by_cases hj : i = j
    · subst hj
      rw [List.getElem?_set_self (by rw [f.len]; exact hi)] at h'
      cases h'
    · rw [List.getElem?_set_ne hj] at h'
      obtain ⟨w, h1, h2⟩ := f.sh j e h'
      exact ⟨w, by rw [List.getElem?_set_ne hj]; exact h1, h2.sub ps⟩
  · by_cases hj : i = j
    · subst hj
      rw [List.getElem?_set_self (by rw [f.len]; exact hi)] at h'
      cases h'
      obtain ⟨xs, ds, h3, h4, h5⟩ := h
      exact ⟨a, by unfold putA; rw [if_pos rfl], by rw [List.getElem?_set_self hi], xs, ds, h3, h4, h5.sub ps⟩
    · rw [List.getElem?_set_ne hj] at h'
      obtain ⟨b, h1, h2, xs, ds, h3, h4, h5⟩ := f.ow j e h'
      exact ⟨b, by unfold putA; rw [if_neg (Ne.symm hj)]; exact h1, by rw [List.getElem?_set_ne hj]; exact h2, xs, ds, h3, h4, h5.sub ps⟩
  · by_cases hj : i = j
    · subst hj
      exact ⟨d, by rw [List.getElem?_set_self (by rw [f.len]; exact hi)]⟩
    · unfold putA at h'
      rw [if_neg (Ne.symm hj)] at h'
      obtain ⟨e, q⟩ := f.al j b h'
      exact ⟨e, by rw [List.getElem?_set_ne hj]; exact q⟩
  · unfold putA at h1 h2
    split at h1
    · cases h1
      split at h2
      · rename_i e1 e2
        rw [e1, e2]
      · exact absurd h2 (na k)
    · split at h2
      · cases h2
        exact absurd h1 (na j)
      · exact f.inj j k b h1 h2
  · obtain ⟨h1, h2⟩ := f.p0 b (.inl hb)
    refine ⟨h1, fun j q => ?_⟩
    unfold putA at q
    split at q
    · cases q; exact hP hb
    · exact h2 j q
/-- an own list is own no more -/
theorem FI.demote {i : Nat} {d : D} (f : FI K P0 α ρ σ H) (h : ρ[i]? = some (.ow d)) : ∃ a, σ[i]? = some (some (.ref a)) ∧ Rep K H (PU P0 (delA α i)) (.ref a) d ∧ FI K P0 (delA α i) (ρ.set i (.sh d)) σ H := by
  obtain ⟨a, h1, h2, xs, ds, h3, h4, h5⟩ := f.ow i d h
  have r : Rep K H (PU P0 (delA α i)) (.ref a) d := by
    rw [h3]
    refine .lst (.of h4) (fun q => ?_) (h5.sub fun b => pu_del)
    rcases q with q | ⟨j, q⟩
    · exact (f.p0 a q).2 i h1
    · obtain ⟨q1, q2⟩ := delA_le q
      exact q2 (f.inj j i a q1 h1)
  refine ⟨a, h2, r, ?_⟩
  have hi : i < σ.length := (List.getElem?_eq_some_iff.mp h2).1
  have eσ : σ.set i (some (.ref a)) = σ := by
    apply List.ext_getElem?
    intro j
    by_cases hj : i = j
    · subst hj; rw [List.getElem?_set_self hi, h2]
    · rw [List.getElem?_set_ne hj]
  have f1 : FI K P0 (delA α i) (ρ.set i .un) (σ.set i (some (.ref a))) H := f.setUn (.inl rfl)
  rw [eσ] at f1
  have g := f1.setSh (v := .ref a) (d := d) hi r
  rw [eσ, List.set_set] at g
  have e2 : delA (delA α i) i = delA α i := by
    funext j
    unfold delA
    split <;> rfl
  rw [e2] at g
  exact g
/-- the list of slot i has turned -/
theorem FI.turn {i : Nat} {a : Addr} {d : D} (f : FI K P0 α ρ σ H) (ha : α i = some a) (k : ∀ b o, b ≠ a → H b = some o → H' b = some o) (h : Hol K H' (PU P0 α) a d) : FI K P0 α (ρ.set i (.ow d)) σ H' := by
  obtain ⟨d0, e0⟩ := f.al i a ha
  have hi : i < ρ.length := (List.getElem?_eq_some_iff.mp e0).1
  have pa : PU P0 α a := .inr ⟨i, ha⟩
  refine ⟨by simp [f.len], fun j e h' => ?_, fun j e h' => ?_, fun j b h' => ?_, f.inj, fun b hb => ?_⟩
  · by_cases hj : i = j
    · subst hj
      rw [List.getElem?_set_self hi] at h'
      cases h'
    · rw [List.getElem?_set_ne hj] at h'
      obtain ⟨w, h1, h2⟩ := f.sh j e h'
      exact ⟨w, h1, Rep.imp (fun b o n q => k b o (fun z => n (z ▸ pa)) q) (fun _ _ n _ => n) _ _ h2⟩
  · by_cases hj : i = j
    · subst hj
      rw [List.getElem?_set_self hi] at h'
      cases h'
      obtain ⟨b, h1, h2, _⟩ := f.ow i d0 e0
      rw [ha] at h1
      cases h1
      exact ⟨a, ha, h2, h⟩
    · rw [List.getElem?_set_ne hj] at h'
      obtain ⟨b, h1, h2, xs, ds, h3, h4, h5⟩ := f.ow j e h'
      refine ⟨b, h1, h2, xs, ds, h3, k b _ (fun z => ?_) h4, RepL.imp (fun b o n q => k b o (fun z => n (z ▸ pa)) q) (fun _ _ n _ => n) _ _ h5⟩
      subst z
      exact hj (f.inj i j _ ha h1)
  · by_cases hj : i = j
    · subst hj
      exact ⟨d, by rw [List.getElem?_set_self hi]⟩
    · obtain ⟨e, q⟩ := f.al j b h'
      exact ⟨e, by rw [List.getElem?_set_ne hj]; exact q⟩
  · obtain ⟨⟨o, h1⟩, h2⟩ := f.p0 b hb
    exact ⟨⟨o, k b o (fun z => h2 i (z ▸ ha)) h1⟩, h2⟩
theorem Ex1.turn {a : Addr} {i : Nat} (ha : α i = some a) (k : ∀ b o, b ≠ a → H b = some o → H' b = some o) (t : ∃ o, H' a = some o) : Ex1 α H α H' :=
  ⟨fun b o h n => k b o (fun z => n i (z ▸ ha)) h, fun _ _ h => h, fun b ⟨o, h⟩ => by
    by_cases e : b = a
    · subst e; exact t
    · exact ⟨o, k b o e h⟩⟩
end
end JK

end
section
set_option Elab.async false
set_option linter.all false
set_option autoImplicit false
set_option maxRecDepth 100000
set_option maxHeartbeats 2000000
/-! JkRef: a class of exceptions whose __init__ says super().__init__(reason); self.reason = reason. -/
namespace JK
open PySem PySem.Spec L2
abbrev sSelf : Str := Str.ofString "self"
abbrev sReason : Str := Str.ofString "reason"
abbrev sSuper : Str := Str.ofString "super"
abbrev sClass : Str := Str.ofString "__class__"
abbrev sInit : Str := Str.ofString "__init__"
/-- what __init__ keeps -/
def spRef (C : Addr) : Sp := fun vs H Q _ => ∃ (a : Addr) (m : Str), vs = [.ref a, .str m] ∧ H a = some (exo a C none) ∧ ∀ dx, H dx = none → dx ≠ a → Q .non (upd (upd H dx (exd dx [(sReason, .str m)])) a (exo a C (some dx)))
def bodyRef (p0 p1 p2 p3 p4 p5 p6 p7 p8 p9 : Pos) : List Stmt :=
  [.Expr (.Call (.Attribute (.Call (.Name sSuper p0) [] [] p1) sInit p2) [.Name sReason p3] [] p4) p5, .Assign [.Attribute (.Name sSelf p6) sReason p7] (.Name sReason p8) p9]
section
variable {P : Program} {w : World} {K : PySem.W.Frag} {mg : Str → Option Value} {base : Heap} {CX : CXT} {k : Nat} {f C cc cda : Addr} {name qual file : Str} {params : Arguments} {scope : Scope} {dV kV doc pm ct oc ccl cl : Value} {an od cdd cld : Option Addr} {osl ccs csl : Array (Option Value)} {vs0 : Array Value} {tf : Tok} {cdC : ClassData} {ar : PySem.Arg} {p0 p1 p2 p3 p4 p5 p6 p7 p8 p9 : Pos}
def cxRef (P : Program) (w : World) (K : PySem.W.Frag) (mg : Str → Option Value) (base : Heap) (qual : Str) (scope : Scope) (f : Addr) (cd : Value) (cc : Addr) (A : Around) (outer : List Env) (s : Shared) (H : Hp) : Cx where
  prog := P
  w := w
  K := K
  mg := mg
  base := base
  A := A.deeper (PySem.W.ksEnv qual scope s.heap.objs.size f cd cc)
  N := [sSelf, sReason]
  s_0 := s
  H_0 := H
  env := PySem.W.ksEnv qual scope s.heap.objs.size f cd cc
  outer := outer
  stack := PySem.W.ksEnv qual scope s.heap.objs.size f cd cc :: outer
  ex := []
  calm := true
  fn := fun _ => false
  pn := []
  xe := fun _ _ => False
theorem cells_one {cc : Addr} {x : Str} {c : Addr} (h : ([(sClass, cc)] : List (Str × Addr)).lookup x = some c) : x = sClass ∧ c = cc := by
  rw [List.lookup_cons] at h
  split at h
  · rename_i e
    cases h
    exact ⟨eq_of_beq e, rfl⟩
  · cases h
theorem inv_ref {A : Around} {outer : List Env} {s : Shared} {H : Hp} {v1 v2 : V} {u1 u2 : Value} {h1 : Heap} {tk : Nat} (hk : scope.kind = .function) (nocell : ∀ x ∈ scope.names, x.2 ≠ .cell) (onlyfree : ∀ x, scope.names.lookup x = some .free → x = sClass)
    (hself : scope.names.lookup sSelf = some .local) (hrea : scope.names.lookup sReason = some .local) (hcell : K.lookup cc = some ⟨cl, cld, .cell (some (.ref C)), csl⟩)
    (hd : A.handled = none) (e0 : Env0 P w K mg base A outer s H) (r1 : RelV v1 u1) (r2 : RelV v2 u2) (hns : h1.Ns s.heap.objs.size (fun x => ([(sSelf, u1), (sReason, u2)] : List (Str × Value)).reverse.lookup x)) (kp : ∀ b o, s.heap.get? b = some o → h1.get? b = some o) :
    Inv (cxRef P w K mg base qual scope f (.ref cda) cc A outer s H) [] [some v1, some v2] H { s with heap := h1, toks := tk } := by
  have hcb := e0.mod.kin cc _ hcell
  have noA : ∀ b : Addr, b ∉ (cxRef P w K mg base qual scope f (.ref cda) cc A outer s H).ex := fun b z => absurd (show b ∈ ([] : List Addr) from z) (by simp)
  refine ⟨⟨e0.mod, hk, rfl, rfl, Nat.le_refl _, fun y z c q1 q2 => (cells_one q1).1.trans (cells_one q2).1.symm, fun y hy => ?_, fun y c q _ => (by cases q), fun _ => hd, Around.frames_deeper e0.frames, .inr ⟨rfl, rfl⟩, fun b z => absurd z (noA b), e0.bs, e0.bsz, fun b _ _ => noA b, fun b z => absurd z (noA b), e0.funs, e0.frf⟩,
    rfl, e0.bare, Un.kept kp, ⟨_, hns, fun i y v q1 q2 q3 => ?_⟩, fun y c q => ?_, e0.hok.fresh (Nat.le_refl _), fun y c q => ?_, fun p hp => absurd (show p ∈ ([] : List (Addr × Obj)) from hp) (by simp), e0.hok.kept kp, rfl⟩
  · have hy : scope.names.lookup y = some .cell ∨ scope.names.lookup y = some .free := hy
    rcases hy with hy | hy
    · exact absurd rfl (nocell _ (PySem.mem_of_lookup hy))
    · rw [onlyfree y hy]
      exact ⟨cc, by show ([(sClass, cc)] : List (Str × Addr)).lookup sClass = some cc; simp [List.lookup]⟩
  · match i with
    | 0 =>
      cases q1
      cases q2
      exact ⟨u1, r1, .inl ⟨hself, by kernel_rfl⟩⟩
    | 1 =>
      cases q1
      cases q2
      exact ⟨u2, r2, .inl ⟨hrea, by kernel_rfl⟩⟩
    | i + 2 => cases q1
  · obtain ⟨_, rfl⟩ := cells_one q
    exact ⟨_, _, kp _ _ (e0.bs _ _ hcb).1, rfl⟩
  · obtain ⟨_, rfl⟩ := cells_one q
    exact (e0.bs _ _ hcb).2
end
section
variable {X : Cx} {pins : List (Addr × Obj)} {σ : L2.St} {H : Hp} {s : Shared} {a u C : Addr} {us : List Value} {Q : Value → Shared → Prop} {E : Value → Shared → Prop} {A : Around}
/-- ValueError.__init__ bound to a new exception is called -/
theorem mw_ok (T : OexC X.K C) (I : Inv X pins σ H s) (e : H a = some (exo a C none)) (hu : s.heap.get? u = some (PySem.W.kxs_mw "ValueError.__init__" a)) (hl : us.length ≤ sizeLine) (h : ∀ s', Inv X pins σ H s' → Q .none s') :
    wpAny (model X.prog X.w) A (call (.ref u) us) Q E s := by
  obtain ⟨nm, q, N, bs, bm, sn, sub, ab, col, dd, k0, k1, k2, k3, k5, hC, hbm⟩ := T.cls
  obtain ⟨t1, ho⟩ := exo_at I.hok e
  have FB := PySem.F.excBase_ValueError
  obtain ⟨hp, g, d, tk, os⟩ := s
  have hCh := I.kIn _ _ hC
  refine wpAny_call (codeAny_of_tree ?_)
  show wpAny _ A.in1 (callAny (.ref u) ⟨us, []⟩) _ _ _
  simp only [callAny]
  refine wpAny_bind (wpAny_load hu ?_)
  simp only [PySem.W.kxs_mw, show (Value.type "method-wrapper" == Value.type "method" || Value.type "method-wrapper" == Value.type "builtin_function_or_method" || Value.type "method-wrapper" == Value.type "method-wrapper") = true by decide, if_true]
  refine PySem.W.KFB.if_so (by decide) ?_
  refine wpAny_bind (PySem.W.check_bound_init FB.toExcCallFacts hCh ho rfl ?_)
  refine wpAny_bind (wpAny_pure (wpAny_pure ?_))
  refine ⟨plainId_quiet FB.init.plain _, codeAny_builtin FB.initEntry ?_⟩
  refine PySem.W.exc_init_tree (cls := .ref C) (t0 := t1) (dv := none) (c2 := .none) (c3 := .none) (b4 := .bool false) ho hl fun h' kp hx ht => ?_
  have J := I.write (t' := tk) (x := a) (e := a) (o := exo a C none) (by rw [e]; exact True.intro) (.inl rfl) kp ⟨_, hx⟩ (exo_ok hx)
  have eu : upd H a (exo a C none) = H := by
    funext b
    by_cases hb : b = a
    · rw [hb, upd_same, e]
    · rw [upd_ne hb]
  rw [eu] at J
  exact h _ J
end
section
variable {P : Program} {w : World} {K : PySem.W.Frag} {mg : Str → Option Value} {base : Heap} {CX : CXT} {k : Nat} {f C cc cda : Addr} {name qual file : Str} {params : Arguments} {scope : Scope} {dV kV doc pm ct oc ccl cl : Value} {an od cdd cld : Option Addr} {osl ccs csl : Array (Option Value)} {vs0 : Array Value} {tf : Tok} {cdC : ClassData} {ar : PySem.Arg} {p0 p1 p2 p3 p4 p5 p6 p7 p8 p9 : Pos}
theorem eval_sup {env : Env} {o : Expr} (hl : (p2.endLine == p4.line) = true) : eval (.Call (.Attribute o sInit p2) [.Name sReason p3] [] p4) env = (do
      let ov ← attributeBase o sInit env (eval o env)
      standAt p2.atName
      let (f, first) ← holding [ov] (getMethod ov sInit (do return (← importBound o env).getD true))
      callWith p4 f first (backTo p4 (starEach [.Name sReason p3] env)) []) := by
  rw [arm_eval_Call]
  have hform : methodCallForm ([Expr.Name sReason p3].length + ([] : List Keyword).length) (backTo p4 (starEach [.Name sReason p3] env)) (backToKw p4 (keywordEach [] env)) = true := by rfl
  have hpos : methodCallPos true o env p2 p4 = pure p4 := by unfold methodCallPos; simp [hl]
  unfold methodCall
  rw [hform]
  simp only [hpos, pure_bind]
  rfl
theorem fn_ref (hline : (p2.endLine == p4.line) = true) (lk : K.lookup f = some ⟨oc, od, .func (PySem.W.ksFn name qual params (bodyRef p0 p1 p2 p3 p4 p5 p6 p7 p8 p9) scope dV kV doc pm an (.ref cda) ct cc), osl⟩) (hcd : PySem.W.codeIn K (.ref cda) qual = true)
    (hcode : K.lookup cda = some ⟨ccl, cdd, .fields vs0, ccs⟩) (hvs : vs0[2]? = some (.str file tf)) (hfile : ((P.main.file : Str) == file) = true) (hcell : K.lookup cc = some ⟨cl, cld, .cell (some (.ref C)), csl⟩)
    (hC : PySem.W.clsIn K C = some cdC) (hsub : PySem.W.mroIn K C (.ref C) = some true) (hsuper : mg sSuper = none) (htop : (P.main.scope.names.lookup sSuper).isSome = false)
    (hpar : (params.posonlyargs ++ params.args).head? = some ar) (har : ar.arg = sSelf) (hk : scope.kind = .function) (hco : scope.isCoroutine = false) (hgen : scope.isGenerator = false)
    (nocell : ∀ x ∈ scope.names, x.2 ≠ .cell) (onlyfree : ∀ x, scope.names.lookup x = some .free → x = sClass) (hks : scope.names.lookup sSuper = some .globalImplicit) (hkc : scope.names.lookup sClass = some .free)
    (hself : scope.names.lookup sSelf = some .local) (hrea : scope.names.lookup sReason = some .local)
    (ho : PySem.W.nsIn K PySem.cStatics "thirdparty.any" = some none) (hm : PySem.W.ks_superIn K C C sInit = some (some (.builtin "ValueError.__init__"))) (hB : PySem.W.subIn K (.ref C) (.type "ValueError") = some true)
    (T : OexC K C) (hno : PySem.W.findIn K (.ref C) sReason = some none) (hv : bootBuiltins sSuper = some (.type "super")) :
    FnOk P w K mg base CX (k + 1) f (PySem.W.ksFn name qual params (bodyRef p0 p1 p2 p3 p4 p5 p6 p7 p8 p9) scope dV kV doc pm an (.ref cda) ct cc) [sSelf, sReason] (spRef C) := by
  refine ⟨fun vs H Q E h => by obtain ⟨a, m, rfl, _⟩ := h; rfl, fun A outer s H args us vs Q E hr e0 hb r hsp => ?_⟩
  obtain ⟨a, m, rfl, ea, hq⟩ := hsp
  cases r with
  | @cons _ u1 _ us' r1 r =>
    cases r with
    | @cons _ u2 _ us'' r2 r =>
      cases r
      obtain rfl : u1 = Value.ref a := r1
      have KX : K.In s.heap := e0.mod.kin.keeps fun b o e => (e0.bs b o e).1
      have lim : s.heap.NoLimit := e0.mod.nolimit.keeps fun b o e => (e0.bs b o e).1
      refine PySem.ks_codeAny_call_defAt (fd := PySem.W.ksFn name qual params (bodyRef p0 p1 p2 p3 p4 p5 p6 p7 p8 p9) scope dV kV doc pm an (.ref cda) ct cc) (body := bodyRef p0 p1 p2 p3 p4 p5 p6 p7 p8 p9) (binds := [sSelf, sReason].zip [.ref a, u2]) hr.depth (KX _ _ lk) rfl lim (PySem.W.codeRec_of KX hcd) rfl hb nocell (fun x hx => ?_) (fun h1 hns kp => ?_) hco hgen hk
      · have hx : x = (sSelf, Value.ref a) ∨ x = (sReason, u2) := by simpa using hx
        rcases hx with rfl | rfl
        · exact hself
        · exact hrea
      show PySem.wpAt (model P w) (A.deeper (PySem.W.ksEnv qual scope s.heap.objs.size f (.ref cda) cc)) (.func (bodyRef p0 p1 p2 p3 p4 p5 p6 p7 p8 p9) (PySem.W.ksEnv qual scope s.heap.objs.size f (.ref cda) cc)) (execs (bodyRef p0 p1 p2 p3 p4 p5 p6 p7 p8 p9) (PySem.W.ksEnv qual scope s.heap.objs.size f (.ref cda) cc)) _ _ _
      have I : Inv (cxRef P w K mg base qual scope f (.ref cda) cc A outer s H) [] [some (.ref a), some (.str m)] H { s with heap := h1, toks := s.toks + 2 } := inv_ref hk nocell onlyfree hself hrea hcell hr.hd e0 (show RelV (.ref a) (.ref a) from rfl) r2 hns kp
      have KX1 : K.In h1 := I.kIn
      refine PySem.ks_wpAt_execs_cons ?_
      refine PySem.ks_wpAt_Expr_any ?_ (hi := by unfold interactive; rw [show (PySem.W.ksEnv qual scope s.heap.objs.size f (.ref cda) cc).scope.kind = .function from hk]; rfl)
      refine PySem.ks_wpAt_MethodCall ?_ (he := eval_sup hline)
      obtain ⟨hp, g, d, tk, os⟩ := s
      obtain ⟨oC, hC1, hC2⟩ : ∃ oD, h1.get? C = some oD ∧ oD.data = .cls cdC := by
        unfold PySem.W.clsIn at hC
        split at hC
        · rename_i c d cd' sl ho
          cases hC
          exact ⟨_, KX1 _ _ ho, rfl⟩
        · cases hC
      obtain ⟨t1, hx⟩ := exo_at I.hok ea
      refine PySem.ks_wpAt_super_base (env := PySem.W.ksEnv qual scope hp.objs.size f (.ref cda) cc) hks hkc (by decide +kernel) rfl (KX1 _ _ lk) rfl hpar rfl (KX1 _ _ hcode) rfl hvs hfile htop ?_
      obtain ⟨mb, hb1, hb2⟩ := I.mod.blt
      have hgl : h1.Ns mainGlobals mg := I.mod.glob.keeps I.bk
      refine PySem.W.ks_loadName_global hk hks (Calls.loadGlobal_builtin (env := PySem.W.ksEnv qual scope hp.objs.size f (.ref cda) cc) hgl hsuper (hb1.keeps I.bk) ((hb2 _ (by decide +kernel)).trans hv) ⟨rfl, ?_⟩)
      refine wpAny_loadName_free hk hkc rfl ⟨_, KX1 _ _ hcell, rfl⟩ ?_
      rw [har]
      refine wpAny_loadName_local (v := .ref a) hk hself hns (by kernel_rfl) ?_
      refine PySem.ks_wpAny_isType_cls hC1 hC2 ⟨rfl, ?_⟩
      refine PySem.ks_wpAny_call_super hC1 hC2 hx rfl (fun c e => by cases e) (PySem.W.looks_mroIn KX1 hsub) (fun h2 e2 k2 => ?_)
      have I2 := I.kept (t' := tk + 2) k2
      have KX2 : K.In h2 := I2.kIn
      unfold PySem.W.ks_superIn at hm
      rw [hC, Option.bind_some] at hm
      obtain ⟨t2, hx2⟩ := exo_at I2.hok ea
      have hne : a ≠ C := fun z => by
        rw [z, k2 _ _ hC1] at hx2
        cases hx2
        cases hC2
      have hin : PySem.W.InstAt h2 a ({ cls := .ref C, dict := none, data := .fields #[.ref t2, .none, .none, .none, .bool false, .none] } : Obj) C none := ⟨hx2, rfl, rfl, trivial⟩
      have hI : PySem.W.Looks (model P w) h2 (isInstance (.ref a) (.type "ValueError")) true := hin.type.andThen (PySem.W.looks_subIn KX2 hB)
      refine PySem.W.kxs_getMethod PySem.W.kxs_ValueError e2 (PySem.W.looks_opaque KX2 ho) (l₀ := cdC.mro) (fun A Q E s k q => wpAny_bind ((PySem.W.looks_clsIn KX2 hC) A _ E s k (wpAny_pure q))) rfl KX2 hm hI hne (by decide +kernel) ?_
      have I3 := I2.kept (t' := tk + 2 + 1) (h' := h2.push (PySem.W.kxs_mw "ValueError.__init__" a)) (fun b u e => Heap.get?_push_of_some _ e)
      have hmw : (h2.push (PySem.W.kxs_mw "ValueError.__init__" a)).get? h2.objs.size = some (PySem.W.kxs_mw "ValueError.__init__" a) := Heap.get?_push_at rfl rfl
      have I4 := I3.pins_of (pins' := [(h2.objs.size, PySem.W.kxs_mw "ValueError.__init__" a)]) (fun p hp => by
        have hp : p = (h2.objs.size, PySem.W.kxs_mw "ValueError.__init__" a) := by simpa using hp
        subst hp
        exact ⟨hmw, I2.hok.fresh (Nat.le_refl _), Nat.ne_of_gt I2.lt, I2.nofs (Nat.le_refl _), fun v z => by cases z⟩)
      have hpa : PA (cxRef P w K mg base qual scope f (.ref cda) cc A outer ⟨hp, g, d, tk, os⟩ H) [.Name sReason p3] (tCons (tVar 1) tNil) := pa_cons (pe_var rfl (.inl hrea) (by decide +kernel) (by decide +kernel)) pa_nil
      refine PySem.W.kxs_callWith (i := "ValueError.__init__") (x := a) rfl (Calls.evalArgs_plain (wpAny_mono (hpa.run p4 _ _ _ H (fun vs H1 => vs = [V.str m] ∧ H = H1) I4 ⟨_, rfl, rfl, rfl⟩) (fun us s1 hh => ?_) fun _ _ z => z.elim))
      obtain ⟨vs, H1, I5, rv, rfl, eH⟩ := hh
      rw [← eH] at I5
      have hus : us.length ≤ sizeLine := by
        rw [← Paired.length rv, sizeLine_eq]
        show 1 ≤ _
        omega
      refine ⟨(I5.pin (h2.objs.size, PySem.W.kxs_mw "ValueError.__init__" a) (List.mem_append_right _ List.mem_cons_self)).1, ?_⟩
      refine mw_ok T I5 ea (I5.pin (h2.objs.size, PySem.W.kxs_mw "ValueError.__init__" a) (List.mem_append_right _ List.mem_cons_self)).1 hus fun s6 I6 => ?_
      refine PySem.wpAt_of_wpAny ?_
      have hos : PS (cxRef P w K mg base qual scope f (.ref cda) cc A outer ⟨hp, g, d, tk, os⟩ H) (.Assign [.Attribute (.Name sSelf p6) sReason p7] (.Name sReason p8) p9) (tOst K sReason (tVar 0) (tVar 1)) :=
        ps_ost (pe_var rfl (.inl hself) (by decide +kernel) (by decide +kernel)) (pe_var rfl (.inl hrea) (by decide +kernel) (by decide +kernel))
      refine wpAny_mono ((pss_one hos).run _ s6 _ H { nx := fun _ H' => Q .non H', rt := Q } I6 ?_) (fun fl s' hs => ?_) fun _ _ z => z.elim
      · refine ⟨_, rfl, _, rfl, a, C, rfl, T, hno, .inl ⟨ea, fun dx h7 h8 => ?_⟩⟩
        exact hq dx h7 h8
      · have fin : ∀ {σ' : L2.St} {H' : Hp} {v : V} {u : Value} {pn : List (Addr × Obj)}, Inv (cxRef P w K mg base qual scope f (.ref cda) cc A outer ⟨hp, g, d, tk, os⟩ H) pn σ' H' s' → RelV v u → Q v H' → CE outer P w H ⟨hp, g, d, tk, os⟩ Q u s' :=
          fun {σ' H' v u pn} J rv q => ⟨v, H', J.os, J.bare, J.base, J.hok, rv, q⟩
        cases fl with
        | ret u =>
          obtain ⟨v, σ', H', J, rv, q⟩ := hs
          exact fin J rv q
        | next =>
          obtain ⟨σ', H', J, q⟩ := hs
          exact fin (v := .non) (u := .none) J rfl q
        | brk => obtain ⟨σ', H', J, q⟩ := hs; exact q.elim
        | cont => obtain ⟨σ', H', J, q⟩ := hs; exact q.elim
end
end JK

end
section
set_option Elab.async false
set_option linter.all false
set_option autoImplicit false
set_option maxRecDepth 100000
set_option maxHeartbeats 2000000
/-! JkRef2: such a class in the module's part: a test, and what it gives. -/
namespace JK
open PySem PySem.Spec L2
def oexB (K : PySem.W.Frag) (C : Addr) : Bool := match K.lookup C with
  | some ⟨.type "type", _, .cls cd, sl⟩ => (match cd.mro, sl.toList with
    | .ref C' :: bm, [_, _, _, _, some (.builtin n), _] => (C' == C && n == "ValueError.__new__") && ((cd.hasDict && !cd.hasDel) && PySem.HandSPX.refsVE bm)
    | _, _ => false)
  | _ => false
theorem oexB_ok {K : PySem.W.Frag} {C : Addr} (h : oexB K C = true) : ∃ nm q N bs bm sn sub ab col dd k0 k1 k2 k3 k5, K.lookup C = some (excClassObj nm q C N bs bm true sn sub ab col dd k0 k1 k2 k3 k5 "ValueError.__new__") ∧ PySem.HandSPX.refsVE bm = true := by
  unfold oexB at h
  split at h
  · rename_i dd cd sl ho
    split at h
    · rename_i C' bm k0 k1 k2 k3 n k5 hm hs
      simp only [Bool.and_eq_true, beq_iff_eq, Bool.not_eq_true'] at h
      obtain ⟨⟨rfl, rfl⟩, ⟨h1, h2⟩, h3⟩ := h
      obtain ⟨nm, bs, mro, ns, qn, hd, sn, sub, ab, col, del⟩ := cd
      dsimp only at hm h1 h2
      subst hm h1 h2
      have hsl : sl = #[k0, k1, k2, k3, some (.builtin "ValueError.__new__"), k5] := by
        obtain ⟨l⟩ := sl
        simp only at hs
        rw [hs]
      subst hsl
      exact ⟨nm, qn, ns, bs, bm, sn, sub, ab, col, dd, k0, k1, k2, k3, k5, ho, h3⟩
    · cases h
  · cases h
def parRef (ps : Arguments) : Bool := match ps with
  | ⟨[], [⟨a, none, _⟩, ⟨b, none, _⟩], none, [], [], none, []⟩ => (a == sSelf) && (b == sReason)
  | _ => false
theorem parRef_ok {ps : Arguments} (h : parRef ps = true) : ∃ p q, ps = ⟨[], [⟨sSelf, none, p⟩, ⟨sReason, none, q⟩], none, [], [], none, []⟩ := by
  unfold parRef at h
  split at h
  · simp only [Bool.and_eq_true, beq_iff_eq] at h
    obtain ⟨rfl, rfl⟩ := h
    exact ⟨_, _, rfl⟩
  · cases h
def bodRef (b : FuncBody) : Bool := match b with
  | .stmts [.Expr (.Call (.Attribute (.Call (.Name s1 _) [] [] _) s2 p2) [.Name s3 _] [] p4) _, .Assign [.Attribute (.Name s4 _) s5 _] (.Name s6 _) _] => ((s1 == sSuper) && (s2 == sInit)) && (((s3 == sReason) && (s4 == sSelf)) && (((s5 == sReason) && (s6 == sReason)) && (p2.endLine == p4.line)))
  | _ => false
theorem bodRef_ok {b : FuncBody} (h : bodRef b = true) : ∃ p0 p1 p2 p3 p4 p5 p6 p7 p8 p9, b = .stmts (bodyRef p0 p1 p2 p3 p4 p5 p6 p7 p8 p9) ∧ (p2.endLine == p4.line) = true := by
  unfold bodRef at h
  split at h
  · simp only [Bool.and_eq_true, beq_iff_eq] at h
    obtain ⟨⟨rfl, rfl⟩, ⟨rfl, rfl⟩, ⟨rfl, rfl⟩, h⟩ := h
    exact ⟨_, _, _, _, _, _, _, _, _, _, rfl, by simpa using h⟩
  · cases h
def scRef (sc : Scope) : Bool := (((decide (sc.kind = .function)) && ((!sc.isCoroutine) && (!sc.isGenerator))) && ((sc.names.all fun p => decide (p.2 ≠ .cell) && (decide (p.2 ≠ .free) || p.1 == sClass)))) &&
  ((decide (sc.names.lookup sSuper = some .globalImplicit) && decide (sc.names.lookup sClass = some .free)) && (decide (sc.names.lookup sSelf = some .local) && decide (sc.names.lookup sReason = some .local)))
def noneV : Value → Bool
  | .none => true
  | _ => false
theorem noneV_ok {v : Value} (h : noneV v = true) : v = .none := by
  cases v <;> first | rfl | cases h
def cellRef (K : PySem.W.Frag) (C : Addr) (cl : List (Str × Addr)) : Bool := match cl with
  | [(x, cc)] => (x == sClass) && (match K.lookup cc with
    | some ⟨_, _, .cell (some (.ref D)), _⟩ => D == C
    | _ => false)
  | _ => false
theorem cellRef_ok {K : PySem.W.Frag} {C : Addr} {l : List (Str × Addr)} (h : cellRef K C l = true) : ∃ cc cl cld csl, l = [(sClass, cc)] ∧ K.lookup cc = some ⟨cl, cld, .cell (some (.ref C)), csl⟩ := by
  unfold cellRef at h
  split at h
  · rename_i x cc
    obtain ⟨h1, h2⟩ := Bool.and_eq_true_iff.mp h
    split at h2
    · rename_i cl cld D csl e
      have := eq_of_beq h1
      subst this
      have := eq_of_beq h2
      subst this
      exact ⟨_, _, _, _, rfl, e⟩
    · cases h2
  · cases h
def fileRef (K : PySem.W.Frag) (file : Str) (cd : Value) : Bool := match cd with
  | .ref c => (match K.lookup c with
    | some ⟨_, _, .fields vs, _⟩ => (match (vs[2]? : Option Value) with
      | some (Value.str x _) => x == file
      | _ => false)
    | _ => false)
  | _ => false
theorem fileRef_ok {K : PySem.W.Frag} {file : Str} {cd : Value} (h : fileRef K file cd = true) : ∃ c cl cdd vs ccs tf, cd = .ref c ∧ K.lookup c = some ⟨cl, cdd, .fields vs, ccs⟩ ∧ vs[2]? = some (.str file tf) := by
  unfold fileRef at h
  split at h
  · split at h
    · rename_i e
      split at h
      · rename_i e2
        have := eq_of_beq h
        subst this
        exact ⟨_, _, _, _, _, _, rfl, e, e2⟩
      · cases h
    · cases h
  · cases h
def fnRef (K : PySem.W.Frag) (file : Str) (C : Addr) (f : Addr) : Bool := match K.lookup f with
  | some ⟨_, _, .func fd, _⟩ => ((parRef fd.params && bodRef fd.body) && (scRef fd.scope && cellRef K C fd.closure)) && (((fd.globals == mainGlobals) && (fd.builtins == builtinsNs)) && (noneV fd.defaults && (fileRef K file fd.code && PySem.W.codeIn K fd.code fd.qualname)))
  | _ => false
def refB (K : PySem.W.Frag) (file : Str) (c : String) : Bool :=
  let C := He.ga K (Str.ofString c)
  let f := He.ma K C sInit
  ((He.eqO (PySem.W.nsIn K mainGlobals (Str.ofString c)) (some (some (.ref C))) && (oexB K C && (He.eqO (PySem.W.findIn K (.ref C) "__setattr__") (some (some (.builtin "object.__setattr__"))) && (decide (PySem.W.subIn K (.ref C) (.type "BaseException") = some true) && (decide (PySem.W.typeIn K (.ref C) = some (.type "type")) && PySem.W.keepIn K (.ref C)))))) &&
    (He.eqO (PySem.W.findIn K (.ref C) sInit) (some (some (.ref f))) && (decide (PySem.W.typeIn K (.ref f) = some (.type "function")) && (xfB K C && He.eqO (PySem.W.findIn K (.ref C) sReason) (some none))))) &&
  ((decide (PySem.W.mroIn K C (.ref C) = some true) && (He.eqO (PySem.W.nsIn K mainGlobals sSuper) (some none) && (He.eqO (PySem.W.nsIn K PySem.cStatics "thirdparty.any") (some none) && (He.eqO (PySem.W.ks_superIn K C C sInit) (some (some (.builtin "ValueError.__init__"))) && decide (PySem.W.subIn K (.ref C) (.type "ValueError") = some true))))) && fnRef K file C f)
/-- what such a class gives -/
theorem ba2 {a b : Bool} (h : (a && b) = true) : a = true ∧ b = true := Bool.and_eq_true_iff.mp h
structure RefK (P : Program) (K : PySem.W.Frag) (mg : Str → Option Value) (c : String) (a : Addr) : Prop where
  g : mg (Str.ofString c) = some (.ref a)
  T : OexC K a
  x : ∃ fI fd, PySem.W.findIn K (.ref a) "__init__" = some (some (.ref fI)) ∧ PySem.W.typeIn K (.ref fI) = some (.type "function") ∧ Binds K fd [sSelf, sReason] [] ∧ ∀ (w : World) (base : Heap) (CX : CXT) (k : Nat), FnOk P w K mg base CX (k + 1) fI fd [sSelf, sReason] (spRef a)
  f : XfC K a
  n : PySem.W.findIn K (.ref a) sReason = some none
theorem fnRef_ok {P : Program} {K : PySem.W.Frag} {mg : Str → Option Value} {file : Str} {C f : Addr} {cdC : ClassData} (h : fnRef K file C f = true) (hfile : (P.main.file == file) = true) (hC : PySem.W.clsIn K C = some cdC) (hsub : PySem.W.mroIn K C (.ref C) = some true) (hsuper : mg sSuper = none) (htop : (P.main.scope.names.lookup sSuper).isSome = false)
    (ho : PySem.W.nsIn K PySem.cStatics "thirdparty.any" = some none) (hm : PySem.W.ks_superIn K C C sInit = some (some (.builtin "ValueError.__init__"))) (hB : PySem.W.subIn K (.ref C) (.type "ValueError") = some true) (T : OexC K C) (hno : PySem.W.findIn K (.ref C) sReason = some none) (hv : bootBuiltins sSuper = some (.type "super")) :
    ∃ fd, Binds K fd [sSelf, sReason] [] ∧ ∀ (w : World) (base : Heap) (CX : CXT) (k : Nat), FnOk P w K mg base CX (k + 1) f fd [sSelf, sReason] (spRef C) := by
  unfold fnRef at h
  split at h
  · rename_i oc od fd osl e
    obtain ⟨name, qual, params, body, scope, gl, closure, dV, kV, doc, pm, an, cdv, ct, bl⟩ := fd
    dsimp only at h
    obtain ⟨h1, h2⟩ := ba2 h
    obtain ⟨h3, h4⟩ := ba2 h1
    obtain ⟨h5, h6⟩ := ba2 h3
    obtain ⟨h7, h8⟩ := ba2 h4
    obtain ⟨h9, h10⟩ := ba2 h2
    obtain ⟨h11, h12⟩ := ba2 h9
    obtain ⟨h13, h14⟩ := ba2 h10
    obtain ⟨h15, h16⟩ := ba2 h14
    obtain ⟨q1, q2, rfl⟩ := parRef_ok h5
    obtain ⟨p0, p1, p2, p3, p4, p5, p6, p7, p8, p9, rfl, hl⟩ := bodRef_ok h6
    obtain ⟨cc, cl, cld, csl, rfl, hcc⟩ := cellRef_ok h8
    have := eq_of_beq h11
    subst this
    have := eq_of_beq h12
    subst this
    have := noneV_ok h13
    subst this
    obtain ⟨cda, ccl, cdd, vs, ccs, tf, rfl, hcode, hvs⟩ := fileRef_ok h15
    obtain ⟨s1, s2⟩ := ba2 h7
    obtain ⟨s3, s4⟩ := ba2 s1
    obtain ⟨s5, s6⟩ := ba2 s3
    obtain ⟨s7, s8⟩ := ba2 s6
    obtain ⟨s9, s10⟩ := ba2 s2
    obtain ⟨s11, s12⟩ := ba2 s9
    obtain ⟨s13, s14⟩ := ba2 s10
    refine ⟨_, .all fun us hl => ?_, fun w base CX k => fn_ref hl e h16 hcode hvs hfile hcc hC hsub hsuper htop (ar := ⟨sSelf, none, q1⟩) rfl rfl (of_decide_eq_true s5) (by simpa using s7) (by simpa using s8) (fun x hx => ?_) (fun x hx => ?_) (of_decide_eq_true s11) (of_decide_eq_true s12) (of_decide_eq_true s13) (of_decide_eq_true s14) ho hm hB T hno hv⟩
    · match us, hl with
      | [_, _], _ => rfl
    · exact of_decide_eq_true (ba2 (List.all_eq_true.mp s4 x hx)).1
    · have := List.all_eq_true.mp s4 _ (PySem.mem_of_lookup hx)
      rcases Bool.or_eq_true_iff.mp (ba2 this).2 with z | z
      · exact absurd rfl (of_decide_eq_true z)
      · exact eq_of_beq z
  · cases h
theorem refK_of {P : Program} {K : PySem.W.Frag} {mg : Str → Option Value} {h : Heap} {file : Str} {c : String} (X : K.In h) (G : h.Ns mainGlobals mg) (hb : refB K file c = true) (hfile : (P.main.file == file) = true) (htop : (P.main.scope.names.lookup sSuper).isSome = false) (hv : bootBuiltins sSuper = some (.type "super")) :
    ∃ a, RefK P K mg c a := by
  unfold refB at hb
  dsimp only at hb
  obtain ⟨h1, h2⟩ := ba2 hb
  obtain ⟨h3, h4⟩ := ba2 h1
  obtain ⟨h5, h6⟩ := ba2 h3
  obtain ⟨h7, h8⟩ := ba2 h6
  obtain ⟨h9, h10⟩ := ba2 h8
  obtain ⟨h11, h12⟩ := ba2 h10
  obtain ⟨h13, h14⟩ := ba2 h12
  obtain ⟨h15, h16⟩ := ba2 h4
  obtain ⟨h17, h18⟩ := ba2 h16
  obtain ⟨h19, h20⟩ := ba2 h18
  obtain ⟨h21, h22⟩ := ba2 h2
  obtain ⟨h23, h24⟩ := ba2 h21
  obtain ⟨h25, h26⟩ := ba2 h24
  obtain ⟨h27, h28⟩ := ba2 h26
  obtain ⟨h29, h30⟩ := ba2 h28
  have T : OexC K (He.ga K (Str.ofString c)) := ⟨oexB_ok h7, He.eqO_ok h9, of_decide_eq_true h11, of_decide_eq_true h13, h14⟩
  have hm0 := of_decide_eq_true h23
  obtain ⟨cdC, hC, _⟩ := Option.bind_eq_some_iff.mp (show (PySem.W.clsIn K (He.ga K (Str.ofString c))).bind _ = some true from hm0)
  obtain ⟨fd, hbi, hF⟩ := fnRef_ok (P := P) (mg := mg) h22 hfile hC hm0 (PySem.W.mg_none_of X G (He.eqO_ok h25)) htop (He.eqO_ok h27) (He.eqO_ok h29) (of_decide_eq_true h30) T (He.eqO_ok h20) hv
  exact ⟨_, PySem.W.mg_of X G (He.eqO_ok h5), T, ⟨_, fd, He.eqO_ok h15, of_decide_eq_true h17, hbi, hF⟩, xfB_ok h19, He.eqO_ok h20⟩
end JK

end
section
set_option Elab.async false
set_option linter.all false
set_option autoImplicit false
set_option maxRecDepth 100000
set_option maxHeartbeats 2000000
/-! JkTry: a try statement with several clauses, some of which name the exception. -/
namespace JK
open PySem PySem.Spec L2
abbrev Hsu : Type := Addr → Value → Option Addr → TS
/-- what the clauses wish -/
def wG (K : PySem.W.Frag) (Wo : WX) (D : Ends) : List (Value × Option Nat × Hsu) → WX
  | [] => Wo
  | (c, none, ts) :: r => fun cls d σ H => ∃ b, PySem.W.exmOne K cls c = some b ∧ (b = true → ∀ a, H a = none → ts a cls d D σ H) ∧ (b = false → wG K Wo D r cls d σ H)
  | (c, some i, ts) :: r => fun cls d σ H => ∃ b, PySem.W.exmOne K cls c = some b ∧ (b = true → ∀ a, H a = none → ts a cls d ⟨fun σ' H' => D.nx (σ'.set i none) H', D.rt, fun σ' H' => D.bk (σ'.set i none) H', fun σ' H' => D.ct (σ'.set i none) H'⟩ (σ.set i (some (.ref a))) H) ∧ (b = false → wG K Wo D r cls d σ H)
inductive HdG (X : Cx) : List ExceptHandler → List (Value × Option Nat × Hsu) → Prop
  | nil : HdG X [] []
  | plain {x : Str} {c : Value} {ts : Hsu} {b0 : Stmt} {su : List Stmt} {np pp : Pos} {hds : List ExceptHandler} {l : List (Value × Option Nat × Hsu)} (hc : Names X x c)
      (hs : ∀ (a : Addr) (oe : Obj) (cls : Value) (d : Option Addr) (pn : List (Addr × Obj)), Zc cls d oe → (∃ vs, oe.data = .fields vs) → PSs (X.suite a ((a, oe) :: pn)) (b0 :: su) (ts a cls d)) (r : HdG X hds l) :
      HdG X (.ExceptHandler (some (.Name x np)) none (b0 :: su) pp :: hds) ((c, none, ts) :: l)
  | as_ {x nm : Str} {i : Nat} {c : Value} {ts : Hsu} {b0 : Stmt} {su : List Stmt} {np pp : Pos} {hds : List ExceptHandler} {l : List (Value × Option Nat × Hsu)} (hi : X.N[i]? = some nm) (hln : X.env.kindOf nm = some .local) (hc : Names X x c)
      (hs : ∀ (a : Addr) (oe : Obj) (cls : Value) (d : Option Addr) (pn : List (Addr × Obj)), Zc cls d oe → (∃ vs, oe.data = .fields vs) → PSs (X.suite a ((a, oe) :: pn)) (b0 :: su) (ts a cls d)) (r : HdG X hds l) :
      HdG X (.ExceptHandler (some (.Name x np)) (some nm) (b0 :: su) pp :: hds) ((c, some i, ts) :: l)
section
variable {X : Cx} {body : List Stmt} {h0 : ExceptHandler} {hds : List ExceptHandler} {l : List (Value × Option Nat × Hsu)} {pos : Pos} {tb : WX → TS} {Wo : WX}
theorem ps_try_g (hs : X.stack = X.env :: X.outer) (hf : X.env.frame = some X.env.locals) (hN : X.N.Nodup) (tk : Takes X Wo)
    (hb : ∀ (W : WX) (pn : List (Addr × Obj)) (xe : Value → Shared → Prop), Takes (X.tr pn xe) W → PassesOwn (model X.prog X.w) X.A X.env xe → PSs (X.tr pn xe) body (tb W))
    (hh : HdG X (h0 :: hds) l) : PS X (.Try body (h0 :: hds) [] [] pos) (fun D σ H => tb (wG X.K Wo D l) D σ H) := by
  refine ⟨fun pins s σ H D I h => ?_⟩
  have ok := I.ok
  have hfr : X.A.frames = some (X.env :: X.outer) := by rw [ok.frames, hs]
  refine wpAny_Try_except (wpAny_mono ((hb (wG X.K Wo D l) (X.pn ++ pins) (fun e s₁ => wpAny (model X.prog X.w) X.A (noteFrame e X.env) (fun _ s₂ => wpAny (model X.prog X.w) X.A (setFlight e none) (fun _ s₃ => wpAny (model X.prog X.w) X.A (handleBy e X.env (h0 :: hds)) (SP X pins D) X.xe s₃) X.xe s₂) X.xe s₁)
    (fun u s' xx => ?_) PassesOwn.looking).run [] s σ H D (I.toTry _) h) (fun f s1 hsp => ?_) (fun e s1 he => he))
  · obtain ⟨a, B, sI, pins', σ', H', cls, d, rfl, J', nb, up, sky, na, os, ag, w⟩ := xx
    have J : Inv X pins σ' H' sI := J'.ofTry ok
    have sky2 : Sky B (X.env :: X.outer) a (Zc cls d) X.env.locals s'.heap := hs ▸ sky
    show wpAny (model X.prog X.w) X.A (noteFrame (.ref a) X.env) _ _ _
    refine Sky.land Zc.steady hfr hf sky2 fun h3 fl3 up3 => ?_
    have J3 : Inv X pins σ' H' { s' with heap := h3 } := J.landed nb fl3.1 (up.trans up3) os ag
    obtain ⟨oe3, vs3, he3, hz3, hd3⟩ := fl3.there
    have nfr : a ∉ frs (X.env :: X.outer) := fun hm => by
      obtain ⟨_, o', e', hnf⟩ := fl3.2.2.1.mem hm
      rw [he3] at e'
      cases e'
      exact hnf _ hd3
    have nL : a ≠ X.env.locals := fun z => nfr (List.mem_filterMap.mpr ⟨X.env, List.mem_cons_self, hf.trans (congrArg some z.symm)⟩)
    have nF : a ∉ X.fs := fun hm => by
      obtain ⟨e, he, q⟩ := List.mem_filterMap.mp hm
      exact nfr (List.mem_filterMap.mpr ⟨e, .tail _ he, q⟩)
    have S3 := J3.suite he3 hd3 na nL nF
    have go : ∀ {hds' : List ExceptHandler} {l' : List (Value × Option Nat × Hsu)}, HdG X hds' l' → wG X.K Wo D l' cls d σ' H' → wpAny (model X.prog X.w) X.A (handleBy (.ref a) X.env hds') (SP X pins D) X.xe { s' with heap := h3 } := by
      intro hds' l' hk
      induction hk with
      | nil =>
        intro w
        refine wpAny_handleBy_nil ?_
        obtain ⟨k1, k2, k3, oe, vs, T, oT, ts', he, hz, hd, h1, hr⟩ := id fl3
        unfold PySem.passOn
        refine wpAny_bind (wpAny_field he hd h1 ?_)
        rw [if_neg (show ¬ ((Value.ref T == Value.none) = true) from by simp)]
        have fin : wpAny (model X.prog X.w) X.A (setFlight (.ref a) X.env.frame) (fun _ s4 => wpAny (model X.prog X.w) X.A (throw (.ref a) : Sem Flow) (SP X pins D) X.xe s4) X.xe { s' with heap := h3 } := by
          rw [hf]
          exact HandSPX.setFlight_upZ fl3 fun h4 hh4 up4 => wpAny_throw (tk _ _ ⟨a, B, sI, pins, σ', H', cls, d, rfl, J, nb, (up.trans up3).trans up4, .inr (.inr (hs ▸ hh4)), na, os, ag, w⟩)
        first
          | exact wpAny_bind (wpAny_pure (wpAny_bind fin))
          | exact wpAny_bind fin
      | @plain x c ts b0 su np pp hds2 l2 hc hsu r ih =>
        intro w
        obtain ⟨b, hb1, hyes, hno⟩ := w
        refine wpAny_handleBy_cons (codeAny_handlers_test ?_) (by intro q; cases q)
        have LM := PySem.W.exm_one (M := model X.prog X.w) (J3.kIn) (show PySem.W.Looks (model X.prog X.w) h3 (typeOf (.ref a)) cls from fun A Q E s k q => wpAny_typeOf_ref (k _ _ he3) (by rw [hz3.1]; exact q)) hb1
        have test : ∀ {Q : Value → Shared → Prop} {E : Value → Shared → Prop}, Q c { s' with heap := h3 } → wpAny (model X.prog X.w) (X.A.mark (some (.ref a))) (eval (.Name x np) X.env) Q E { s' with heap := h3 } := fun {Q E} q => by
          obtain ⟨hg, hdbg, hm | ⟨hm, hv, hnn⟩⟩ := hc
          · exact ld_glob (X := X.suite a ((a, oe3) :: (X.pn ++ pins))) S3 hg hm q hdbg
          · exact ld_blt (X := X.suite a ((a, oe3) :: (X.pn ++ pins))) S3 hg hm hv q hnn hdbg
        refine test (LM.here ?_)
        cases b with
        | false => exact ih (hno rfl)
        | true =>
          refine codeAny_handlers_suite (HandSPX.lands_againZ fl3 fun h4 fl4 up4 => ?_)
          have J4 : Inv X pins σ' H' { s' with heap := h4 } := J.landed nb fl4.1 ((up.trans up3).trans up4) os ag
          obtain ⟨oe4, vs4, he4, hz4, hd4⟩ := fl4.there
          refine wpAny_mono ((hsu a oe4 cls d (X.pn ++ pins) hz4 ⟨_, hd4⟩).run [] _ _ H' _ (J4.suite he4 hd4 na nL nF) (hyes rfl a na)) (fun f s6 hsp => ?_) (fun _ _ z => z.elim)
          cases f with
          | ret u =>
            obtain ⟨v6, σ6, H6, S6, r6, q6⟩ := hsp
            exact ⟨_, _, _, S6.unsuite ok, r6, q6⟩
          | _ =>
            obtain ⟨σ6, H6, S6, q6⟩ := hsp
            exact ⟨_, _, S6.unsuite ok, q6⟩
      | @as_ x nm i c ts b0 su np pp hds2 l2 hi hln hc hsu r ih =>
        intro w
        obtain ⟨b, hb1, hyes, hno⟩ := w
        refine wpAny_handleBy_cons (codeAny_handlers_test ?_) (by intro q; cases q)
        have LM := PySem.W.exm_one (M := model X.prog X.w) (J3.kIn) (show PySem.W.Looks (model X.prog X.w) h3 (typeOf (.ref a)) cls from fun A Q E s k q => wpAny_typeOf_ref (k _ _ he3) (by rw [hz3.1]; exact q)) hb1
        have test : ∀ {Q : Value → Shared → Prop} {E : Value → Shared → Prop}, Q c { s' with heap := h3 } → wpAny (model X.prog X.w) (X.A.mark (some (.ref a))) (eval (.Name x np) X.env) Q E { s' with heap := h3 } := fun {Q E} q => by
          obtain ⟨hg, hdbg, hm | ⟨hm, hv, hnn⟩⟩ := hc
          · exact ld_glob (X := X.suite a ((a, oe3) :: (X.pn ++ pins))) S3 hg hm q hdbg
          · exact ld_blt (X := X.suite a ((a, oe3) :: (X.pn ++ pins))) S3 hg hm hv q hnn hdbg
        refine test (LM.here ?_)
        cases b with
        | false => exact ih (hno rfl)
        | true =>
          refine codeAny_handlers_suite_as (HandSPX.lands_againZ fl3 fun h4 fl4 up4 => ?_)
          have J4 : Inv X pins σ' H' { s' with heap := h4 } := J.landed nb fl4.1 ((up.trans up3).trans up4) os ag
          obtain ⟨oe4, vs4, he4, hz4, hd4⟩ := fl4.there
          refine store_ok (X := X.suite a ((a, oe4) :: (X.pn ++ pins))) (v := .ref a) (J4.suite he4 hd4 na nL nF) hN hi (.inl hln) rfl (fun s5 S5 => ?_) (.inr hln)
          refine wpAny_mono ((hsu a oe4 cls d (X.pn ++ pins) hz4 ⟨_, hd4⟩).run [] s5 _ H' _ S5 (hyes rfl a na)) (fun f s6 hsp => ?_) (fun _ _ z => z.elim)
          have fin : ∀ {σ6 : L2.St} {H6 : Hp} {Q : Shared → Prop}, Inv (X.suite a ((a, oe4) :: (X.pn ++ pins))) [] σ6 H6 s6 → (∀ s7, Inv X pins (σ6.set i none) H6 s7 → Q s7) →
              wpAny (model X.prog X.w) X.A (do bindName X.env nm .none; unbindBehindTheSuite X.env nm pp) (fun _ s7 => Q s7) X.xe s6 := fun {σ6 H6 Q} S6 hq => gone_ok (S6.unsuite ok) hN hi hln hq
          cases f with
          | ret u =>
            obtain ⟨v6, σ6, H6, S6, r6, q6⟩ := hsp
            exact fin S6 fun s7 J7 => ⟨_, _, _, J7, r6, q6⟩
          | _ =>
            obtain ⟨σ6, H6, S6, q6⟩ := hsp
            exact fin S6 fun s7 J7 => ⟨_, _, J7, q6⟩
    exact go hh w
  · cases f with
    | next =>
      obtain ⟨σ', H', J', q⟩ := hsp
      exact wpAny_execs_nil ⟨σ', H', J'.ofTry ok, q⟩
    | ret u =>
      obtain ⟨v, σ', H', J', r, q⟩ := hsp
      exact ⟨v, σ', H', J'.ofTry ok, r, q⟩
    | _ =>
      obtain ⟨σ', H', J', q⟩ := hsp
      exact ⟨σ', H', J'.ofTry ok, q⟩
end
end JK

end
section
set_option Elab.async false
set_option linter.all false
set_option autoImplicit false
set_option maxRecDepth 100000
/-! JkRun: an evaluation as a reading: what the hand layer's rules ask follows from the evaluator's end. -/
namespace JK
open PySem PySem.Spec L2

/-- facts of every heap that comes -/
structure KF (K : PySem.W.Frag) (H : Hp) : Prop where
  free : ∀ a o, K.lookup a = some o → H a = none
  ll : ∀ a xs, Rd H a (.lst xs) → xs.length ≤ sizeLine
  lt : ∀ a xs, SqT K H a xs → xs.length ≤ sizeLine
theorem kf_of {X : Cx} {pins : List (Addr × Obj)} {σ : L2.St} {H : Hp} {s : Shared} (I : Inv X pins σ H s) : KF X.K H :=
  ⟨fun a o e => (I.bs a o (I.mod.kin a o e)).2, fun a xs h => by
    obtain ⟨_, _, _, z⟩ := I.list (show SqL X.K H a xs from .inl h)
    exact z, fun a xs h => by
    obtain ⟨_, _, _, z⟩ := I.tuple h
    exact z⟩
section
variable {X : Cx}
theorem pe_by {e : Expr} {t t' : TE} (h : PE X e t) (w : ∀ σ H Q, KF X.K H → t' σ H Q → t σ H fun v H' => KF X.K H' → Q v H') : PE X e t' :=
  ⟨fun pins s σ H Q I hq => thn (h.run pins s σ H _ I (w σ H Q (kf_of I) hq)) fun _ _ ⟨v, H', I', r, q⟩ => ⟨v, H', I', r, q (kf_of I')⟩⟩
theorem pt_by {e : Expr} {t t' : TT} (h : PT X e t) (w : ∀ σ H Q, KF X.K H → t' σ H Q → t σ H fun v H' => KF X.K H' → Q v H') : PT X e t' :=
  ⟨fun pins s σ H Q I hq => thn (h.run pins s σ H _ I (w σ H Q (kf_of I) hq)) fun _ _ ⟨H', I', q⟩ => ⟨H', I', q (kf_of I')⟩⟩
theorem pw_by {e : Expr} {t t' : TT} (h : PW X e t) (w : ∀ σ H Q, KF X.K H → t' σ H Q → t σ H fun v H' => KF X.K H' → Q v H') : PW X e t' :=
  ⟨fun wh pins s σ H Q I hq => thn (h.run wh pins s σ H _ I (w σ H Q (kf_of I) hq)) fun _ _ ⟨H', I', q⟩ => ⟨H', I', q (kf_of I')⟩⟩
theorem pa_by {e : List Expr} {t t' : TA} (h : PA X e t) (w : ∀ σ H Q, KF X.K H → t' σ H Q → t σ H fun v H' => KF X.K H' → Q v H') : PA X e t' :=
  ⟨fun pos pins s σ H Q I hq => thn (h.run pos pins s σ H _ I (w σ H Q (kf_of I) hq)) fun _ _ ⟨v, H', I', r, q⟩ => ⟨v, H', I', r, q (kf_of I')⟩⟩
theorem opr_by {f : Value → Value → Sem Value} {r r' : R2} (h : OpR X f r) (w : ∀ x y H Q, KF X.K H → r' x y H Q → r x y H fun v H' => KF X.K H' → Q v H') : OpR X f r' :=
  fun pins s σ H x y v u Q I rx ry hq => thn (h pins s σ H x y v u _ I rx ry (w x y H Q (kf_of I) hq)) fun _ _ ⟨v, H', I', r, q⟩ => ⟨v, H', I', r, q (kf_of I')⟩
end

/-- what lies in an exception -/
def FldR (d : D) (dd : Option Addr) (H : Hp) : Prop :=
  (d = .none ∧ dd = none) ∨ ∃ b fs s, dd = some b ∧ d = .str s ∧ H b = some (.xd fs) ∧ fs.lookup (Str.ofString "reason") = some (.str s)
/-- the classes of exceptions that are known here -/
def xsAll : List String := ["Malformed", "Refused", "NoText"]
def ExR (mg : Str → Option Value) (c : String) (d : D) (cls : Value) (dd : Option Addr) (H : Hp) : Prop :=
  (c ∈ xsAll ∧ ∃ a, mg (Str.ofString c) = some (.ref a) ∧ cls = .ref a) ∧ (FldR d dd H ∧ (c ≠ "Malformed" → ∃ s, d = .str s))

section
variable (W : WX) (K : PySem.W.Frag) (mg : Str → Option Value) (P0 : Addr → Prop) (σ : L2.St)
/-- the evaluation ended so: what must hold -/
def Run {β : Type} (α : Am) (H : Hp) (r : R β) (ok : β → Ev → Am → Hp → Prop) : Prop :=
  match r with
  | .ok b ρ' => ∀ α' H', FI K P0 α' ρ' σ H' → Ex1 α H α' H' → ok b ρ' α' H'
  | .ex c d ρ' => ∀ α' H' cls dd, FI K P0 α' ρ' σ H' → Ex1 α H α' H' → ExR mg c d cls dd H' → W cls dd σ H'
  | .er _ => False
end
section
variable {W : WX} {K : PySem.W.Frag} {mg : Str → Option Value} {P0 : Addr → Prop} {σ : L2.St} {α : Am} {H : Hp} {β γ : Type}
theorem Run.bd {r : R β} {f : β → Ev → R γ} {ok : γ → Ev → Am → Hp → Prop} (h : Run W K mg P0 σ α H (r.bd f) ok) :
    Run W K mg P0 σ α H r fun b ρ' α' H' => Run W K mg P0 σ α' H' (f b ρ') ok := by
  cases r with
  | ok b ρ =>
    have h' : Run W K mg P0 σ α H (f b ρ) ok := h
    intro α' H' fi ex
    cases e : f b ρ with
    | ok c ρ2 =>
      rw [e] at h'
      exact fun α2 H2 fi2 ex2 => h' α2 H2 fi2 (ex.trans ex2)
    | ex c d ρ2 =>
      rw [e] at h'
      exact fun α2 H2 cls dd fi2 ex2 x => h' α2 H2 cls dd fi2 (ex.trans ex2) x
    | er m =>
      rw [e] at h'
      exact h'.elim
  | ex c d ρ => exact h
  | er m => exact h.elim
theorem Run.mono {r : R β} {ok ok' : β → Ev → Am → Hp → Prop} (h : Run W K mg P0 σ α H r ok)
    (w : ∀ b ρ' α' H', FI K P0 α' ρ' σ H' → Ex1 α H α' H' → ok b ρ' α' H' → ok' b ρ' α' H') : Run W K mg P0 σ α H r ok' := by
  cases r with
  | ok b ρ => exact fun α' H' fi ex => w b ρ α' H' fi ex (h α' H' fi ex)
  | ex c d ρ => exact h
  | er m => exact h.elim
theorem Run.monoE {r : R β} {ok ok' : β → Ev → Am → Hp → Prop} (h : Run W K mg P0 σ α H r ok)
    (w : ∀ b ρ' α' H', r = .ok b ρ' → FI K P0 α' ρ' σ H' → Ex1 α H α' H' → ok b ρ' α' H' → ok' b ρ' α' H') : Run W K mg P0 σ α H r ok' := by
  cases r with
  | ok b ρ => exact fun α' H' fi ex => w b ρ α' H' rfl fi ex (h α' H' fi ex)
  | ex c d ρ => exact h
  | er m => exact h.elim
/-- it has come through: use it here -/
theorem Run.here {b : β} {ρ : Ev} {ok : β → Ev → Am → Hp → Prop} (h : Run W K mg P0 σ α H (.ok b ρ) ok) (f : FI K P0 α ρ σ H) : ok b ρ α H := h α H f .refl
theorem Run.at {b : β} {ρ : Ev} {ok : β → Ev → Am → Hp → Prop} {α' : Am} {H' : Hp} (h : Run W K mg P0 σ α H (.ok b ρ) ok) (f : FI K P0 α' ρ σ H') (x : Ex1 α H α' H') : ok b ρ α' H' := h α' H' f x
theorem Run.lift {x : Except String β} {ρ : Ev} {ok : β → Ev → Am → Hp → Prop} (h : Run W K mg P0 σ α H (lift x ρ) ok) : ∃ b, x = .ok b ∧ Run W K mg P0 σ α H (.ok b ρ) ok := by
  cases x with
  | ok b => exact ⟨b, rfl, h⟩
  | error m => exact (show False from h).elim
end

/-! ### the readings -/
/-- a value that has come; fr: a list is nobody's -/
def OkV (K : PySem.W.Frag) (P0 : Addr → Prop) (fr : Bool) (Hs : Hp) (α : Am) (ρ : Ev) (σ : L2.St) (H : Hp) (u : V) (d : D) : Prop :=
  match fr && isLst d with
  | true => ∃ a xs ds, u = .ref a ∧ d = .list ds ∧ H a = some (.lst xs) ∧ Hs a = none ∧ ¬ P0 a ∧ FI K (fun b => P0 b ∨ b = a) α ρ σ H ∧ RepL K H (PU (fun b => P0 b ∨ b = a) α) xs ds
  | false => Rep K H (PU P0 α) u d
theorem OkV.rep {K : PySem.W.Frag} {P0 : Addr → Prop} {fr : Bool} {Hs : Hp} {α : Am} {ρ : Ev} {σ : L2.St} {H : Hp} {u : V} {d : D} (h : OkV K P0 fr Hs α ρ σ H u d) : Rep K H (PU P0 α) u d := by
  unfold OkV at h
  cases e : fr && isLst d with
  | false => rw [e] at h; exact h
  | true =>
    rw [e] at h
    obtain ⟨a, xs, ds, rfl, rfl, h1, _, h2, h3, h4⟩ := h
    refine .lst (.inl h1) (fun q => ?_) (h4.sub fun b q => q.imp .inl id)
    rcases q with q | ⟨i, q⟩
    · exact h2 q
    · exact (h3.p0 a (.inr rfl)).2 i q
theorem OkV.of {K : PySem.W.Frag} {P0 : Addr → Prop} {Hs : Hp} {α : Am} {ρ : Ev} {σ : L2.St} {H : Hp} {u : V} {d : D} (h : Rep K H (PU P0 α) u d) : OkV K P0 false Hs α ρ σ H u d := h
theorem OkV.flat {K : PySem.W.Frag} {P0 : Addr → Prop} {fr : Bool} {Hs : Hp} {α : Am} {ρ : Ev} {σ : L2.St} {H : Hp} {u : V} {d : D} (e : isLst d = false) (h : Rep K H (PU P0 α) u d) : OkV K P0 fr Hs α ρ σ H u d := by
  unfold OkV
  rw [e, Bool.and_false]
  exact h
theorem OkV.later {K : PySem.W.Frag} {P0 : Addr → Prop} {fr : Bool} {Hs Hs' : Hp} {α : Am} {ρ : Ev} {σ : L2.St} {H : Hp} {u : V} {d : D} (h : OkV K P0 fr Hs' α ρ σ H u d) (w : ∀ a, Hs' a = none → Hs a = none) : OkV K P0 fr Hs α ρ σ H u d := by
  unfold OkV at h ⊢
  split
  · rename_i e
    rw [e] at h
    obtain ⟨a, xs, ds, h1, h2, h3, h4, h5⟩ := h
    exact ⟨a, xs, ds, h1, h2, h3, w a h4, h5⟩
  · rename_i e
    rw [e] at h
    exact h
theorem Ex1.nn {α α' : Am} {H H' : Hp} (x : Ex1 α H α' H') {a : Addr} (h : H' a = none) : H a = none := by
  cases e : H a with
  | none => rfl
  | some o =>
    obtain ⟨o', q⟩ := x.there a ⟨o, e⟩
    rw [h] at q
    cases q
/-- a new list at p -/
theorem okV_new {K : PySem.W.Frag} {P0 : Addr → Prop} {fr : Bool} {Hs : Hp} {α : Am} {ρ : Ev} {σ : L2.St} {H : Hp} {p : Addr} {xs : List V} {ds : List D} (hs : Hs p = none) (f : FI K P0 α ρ σ H) (hp : H p = none) (kf : KF K (upd H p (.lst xs))) (r : RepL K H (PU P0 α) xs ds) :
    OkV K P0 fr Hs α ρ σ (upd H p (.lst xs)) (.ref p) (.list ds) := by
  have hk : ∀ o, K.lookup p = some o → False := fun o e => by
    have := kf.free p o e
    rw [upd_same] at this
    cases this
  have np : ¬ PU P0 α p := fun q => by
    obtain ⟨o, e⟩ := f.pu p q
    rw [hp] at e
    cases e
  have f2 := f.allocP (o := .lst xs) hp hk
  have r2 : RepL K (upd H p (.lst xs)) (PU (fun b => P0 b ∨ b = p) α) xs ds := by
    refine RepL.imp (fun a o _ q => Al.upd hp a o q) (fun a ys n h q => ?_) ds xs r
    rcases q with (q | q) | q
    · exact n (.inl q)
    · subst q
      rcases h with (h | ⟨_, h⟩) | ((h | ⟨_, h⟩) | ⟨_, _, _, h, _⟩)
      · rw [hp] at h; cases h
      · rw [hp] at h; cases h
      · rw [hp] at h; cases h
      · rw [hp] at h; cases h
      · exact hk _ h
    · exact n (.inr q)
  unfold OkV
  cases fr with
  | true => exact ⟨p, xs, ds, rfl, rfl, upd_same, hs, fun q => np (.inl q), f2, r2⟩
  | false => exact .lst (.inl upd_same) np (r.al (Al.upd hp))
/-- an argument that has come -/
def ArgR (K : PySem.W.Frag) (P0 : Addr → Prop) (α : Am) (σ : L2.St) (H : Hp) (x : Arg) (u : V) : Prop :=
  match x with
  | .val d => Rep K H (PU P0 α) u d
  | .bor i => σ[i]? = some (some u)
inductive ArgRs (K : PySem.W.Frag) (P0 : Addr → Prop) (α : Am) (σ : L2.St) (H : Hp) : List Arg → List V → Prop
  | nil : ArgRs K P0 α σ H [] []
  | cons {x : Arg} {xs : List Arg} {u : V} {us : List V} : ArgR K P0 α σ H x u → ArgRs K P0 α σ H xs us → ArgRs K P0 α σ H (x :: xs) (u :: us)
section
variable {K : PySem.W.Frag} {P0 : Addr → Prop} {σ : L2.St} {α α' : Am} {H H' : Hp} {ρ : Ev}
theorem ArgR.ex1 {x : Arg} {u : V} (h : ArgR K P0 α σ H x u) (e : Ex1 α H α' H') : ArgR K P0 α' σ H' x u := by
  cases x with
  | val d => exact Rep.ex1 h e
  | bor i => exact h
theorem ArgRs.ex1 {xs : List Arg} {us : List V} (h : ArgRs K P0 α σ H xs us) (e : Ex1 α H α' H') : ArgRs K P0 α' σ H' xs us := by
  induction h with
  | nil => exact .nil
  | cons a _ ih => exact .cons (a.ex1 e) ih
inductive RepCs (K : PySem.W.Frag) (H : Hp) (P : Addr → Prop) : List V → List D → Prop
  | nil : RepCs K H P [] []
  | cons {v : V} {vs : List V} {d : D} {ds : List D} : RepC K H P v d → RepCs K H P vs ds → RepCs K H P (v :: vs) (d :: ds)
/-- .. as it stands now -/
theorem ArgR.now {x : Arg} {u : V} {d : D} (f : FI K P0 α ρ σ H) (h : ArgR K P0 α σ H x u) (e : rs ρ x = some d) : RepC K H (PU P0 α) u d := by
  cases x with
  | val d' =>
    cases e
    exact .cl h
  | bor i =>
    have h' : σ[i]? = some (some u) := h
    have e' : getS ρ i = some d := e
    unfold getS at e'
    cases q : ρ[i]? with
    | none => rw [q] at e'; cases e'
    | some s =>
      rw [q] at e'
      cases s with
      | un => cases e'
      | xn _ _ => cases e'
      | sh d' =>
        cases e'
        obtain ⟨v, h1, h2⟩ := f.sh i d q
        rw [h'] at h1
        cases h1
        exact .cl h2
      | ow d' =>
        cases e'
        obtain ⟨a, h1, h2, xs, ds, h3, h4, h5⟩ := f.ow i d q
        rw [h'] at h2
        cases h2
        rw [h3]
        exact .top (.inl h4) h5
theorem ArgRs.now {xs : List Arg} {us : List V} (f : FI K P0 α ρ σ H) (h : ArgRs K P0 α σ H xs us) : ∀ {ds : List D}, rsAll ρ xs = some ds → RepCs K H (PU P0 α) us ds := by
  induction h with
  | nil =>
    intro ds e
    cases e
    exact .nil
  | cons a _ ih =>
    intro ds e
    simp only [rsAll, Option.bind_eq_some_iff, Option.map_eq_some_iff] at e
    obtain ⟨d, e1, ds', e2, rfl⟩ := e
    exact .cons (a.now f e1) (ih e2)
theorem RepCs.one {P : Addr → Prop} {us : List V} {d : D} (h : RepCs K H P us [d]) : ∃ u, us = [u] ∧ RepC K H P u d := by
  cases h with
  | cons a b => cases b; exact ⟨_, rfl, a⟩
theorem RepCs.two {P : Addr → Prop} {us : List V} {d e : D} (h : RepCs K H P us [d, e]) : ∃ u w, us = [u, w] ∧ RepC K H P u d ∧ RepC K H P w e := by
  cases h with
  | cons a b => cases b with
    | cons b c => cases c; exact ⟨_, _, rfl, a, b⟩
theorem RepCs.nil' {P : Addr → Prop} {us : List V} (h : RepCs K H P us []) : us = [] := by
  cases h; rfl
theorem ArgRs.one {x : Arg} {us : List V} (h : ArgRs K P0 α σ H [x] us) : ∃ u, us = [u] ∧ ArgR K P0 α σ H x u := by
  cases h with
  | cons a b => cases b; exact ⟨_, rfl, a⟩
end
section
variable (X : Cx) (C : Cfg) (W : WX)
def tE (fr : Bool) (e : E) : TE := fun σ H Q => ∃ P0 α ρ, FI X.K P0 α ρ σ H ∧ Run W X.K X.mg P0 σ α H (evE C e ρ) fun d ρ' α' H' => ∀ u, OkV X.K P0 fr H α' ρ' σ H' u d → Q u H'
def tA (e : E) : TE := fun σ H Q => ∃ P0 α ρ, FI X.K P0 α ρ σ H ∧ Run W X.K X.mg P0 σ α H (evA C e ρ) fun x ρ' α' H' => ∀ u, ArgR X.K P0 α' σ H' x u → Q u H'
def tT (e : E) : TT := fun σ H Q => ∃ P0 α ρ, FI X.K P0 α ρ σ H ∧ Run W X.K X.mg P0 σ α H (evT C e ρ) fun b ρ' α' H' => Q b H'
def tC' (e : List E) : TT := fun σ H Q => ∃ P0 α ρ, FI X.K P0 α ρ σ H ∧ Run W X.K X.mg P0 σ α H (evC C e ρ) fun b ρ' α' H' => Q b H'
def tEs (es : List E) : TA := fun σ H Q => ∃ P0 α ρ, FI X.K P0 α ρ σ H ∧ Run W X.K X.mg P0 σ α H (evEs C es ρ) fun ds ρ' α' H' => ∀ us, RepL X.K H' (PU P0 α') us ds → Q us H'
def tAs (es : List E) : TA := fun σ H Q => ∃ P0 α ρ, FI X.K P0 α ρ σ H ∧ Run W X.K X.mg P0 σ α H (evAs C es ρ) fun xs ρ' α' H' => ∀ us, ArgRs X.K P0 α' σ H' xs us → Q us H'
end
section
variable {X : Cx} {C : Cfg} {W : WX}
theorem tE_weak {p : Expr} {fr : Bool} {e : E} (h : PE X p (tE X C W fr e)) : PE X p (tE X C W false e) :=
  pe_by h fun σ H Q _ ⟨P0, α, ρ, f, r⟩ => ⟨P0, α, ρ, f, r.mono fun d ρ' α' H' _ _ q u o _ => q u (OkV.of o.rep)⟩
end
end JK

end
section
set_option Elab.async false
set_option linter.all false
set_option autoImplicit false
set_option maxRecDepth 100000
set_option maxHeartbeats 1000000
/-! JkOps: the operators, comparisons, truth, by value. -/
namespace JK
open PySem PySem.Spec L2

/-- what is asked of a result v; a list is a new one -/
def Res (K : PySem.W.Frag) (H : Hp) (P : Addr → Prop) (v : D) (Q : VK) : Prop :=
  (isLst v = false → ∀ u H', Al H H' → Rep K H' P u v → Q u H') ∧
  (∀ ds xs p, v = .list ds → H p = none → KF K (upd H p (.lst xs)) → RepL K H P xs ds → Q (.ref p) (upd H p (.lst xs)))
/-- .. an old one -/
def ResP (K : PySem.W.Frag) (H : Hp) (P : Addr → Prop) (v : D) (Q : VK) : Prop := ∀ u H', Al H H' → Rep K H' P u v → Q u H'
def opP : Op → Operator
  | .add => .Add | .sub => .Sub | .mul => .Mult | .fdiv => .FloorDiv | .mod => .Mod | .shl => .LShift | .shr => .RShift | .band => .BitAnd | .bor => .BitOr | .bxor => .BitXor
def rOp (K : PySem.W.Frag) (o : Op) : R2 := fun x y H Q => ∃ P d e v, RepC K H P x d ∧ RepC K H P y e ∧ (∀ a, P a → ∃ o, H a = some o) ∧ opD o d e = .ok v ∧ Res K H P v Q
section
variable {X : Cx} {pins : List (Addr × Obj)} {σ : L2.St} {H : Hp} {s : Shared}
theorem rd_at {l : Addr} {xs : List V} (I : Inv X pins σ H s) (h : Rd H l (.lst xs)) :
    xs.length ≤ sizeLine ∧ ∃ (its : List Value) (n : Nat), Vals xs its ∧ xs.length = its.length ∧ s.heap.get? l = some { cls := .type "list", data := .seq its.toArray n } := by
  have q := h.ok I.hok
  obtain ⟨z, its, n, r, e⟩ := q
  exact ⟨z, its, n, r, r.length, e⟩
theorem lim_line : lim ≤ sizeLine := by rw [sizeLine_eq]; decide
theorem op_catR : OpR X (binaryOp .Add) fun x y H Q => ∃ l b xs zs, x = .ref l ∧ y = .ref b ∧ Rd H l (.lst xs) ∧ Rd H b (.lst zs) ∧ (xs ++ zs).length ≤ sizeLine ∧ ∀ p, H p = none → Q (.ref p) (upd H p (.lst (xs ++ zs))) := by
  intro pins s σ H x y v u Q I rx ry ⟨l, b, xs, zs, ex, ey, h1, h2, hz, q⟩
  subst ex
  subst ey
  cases rx
  cases ry
  obtain ⟨_, is1, n1, v1, l1, g1⟩ := rd_at I h1
  obtain ⟨_, is2, n2, v2, l2, g2⟩ := rd_at I h2
  have hz' : is1.toArray.size + is2.toArray.size ≤ sizeLine := by
    simp only [List.size_toArray]
    rw [List.length_append] at hz
    omega
  refine PySem.P.add_list g1 g2 ?_ hz'
  have e3 : is1.toArray ++ is2.toArray = (is1 ++ is2).toArray := by simp
  rw [e3]
  exact ⟨V.ref _, _, I.lnew (t' := s.toks) (v1.append v2) hz, rfl, q _ I.fresh⟩
end
section
variable {X : Cx}
theorem lenOk_le {α : Type} {xs : List α} (h : lenOk xs = true) : xs.length ≤ sizeLine := Nat.le_trans (Nat.le_of_lt (of_decide_eq_true h)) lim_line
theorem opAdd_ok : OpR X (binaryOp .Add) (rOp X.K .add) := by
  refine opr_by (r := fun x y H Q => (∃ i j, x = V.int i ∧ y = V.int j ∧ Q (.int (i + j)) H) ∨ ((∃ i j, x = V.str i ∧ y = .str j ∧ i.length + j.length ≤ sizeLine ∧ Q (.str (i ++ j)) H) ∨
    ((∃ l b xs zs, x = .ref l ∧ y = .ref b ∧ Rd H l (.lst xs) ∧ Rd H b (.lst zs) ∧ (xs ++ zs).length ≤ sizeLine ∧ ∀ p, H p = none → Q (.ref p) (upd H p (.lst (xs ++ zs)))) ∨ rCatA X.K x y H Q)))
    ((op_add (X := X)).or ((op_add_str (X := X)).or ((op_catR (X := X)).or op_catA))) ?_
  rintro x y H Q kf ⟨P, d, e, w, hx, hy, hp, ho, hq1, hq2⟩
  cases d <;> cases e <;> try (simp [opD] at ho; done)
  · rename_i i j
    simp only [opD, Except.ok.injEq] at ho
    subst ho
    exact .inl ⟨i, j, hx.int, hy.int, fun _ => hq1 rfl _ _ (Al.refl H) (.int _)⟩
  · rename_i i j
    simp only [opD] at ho
    split at ho
    · rename_i hl
      cases ho
      refine .inr (.inl ⟨i, j, hx.str, hy.str, ?_, fun _ => hq1 rfl _ _ (Al.refl H) (.str _)⟩)
      have := of_decide_eq_true hl
      have := lim_line
      omega
    · cases ho
  · rename_i ds es
    simp only [opD] at ho
    split at ho
    · rename_i hl
      cases ho
      obtain ⟨a, xs, rfl, h1, r1⟩ := hx.lst
      obtain ⟨b, ys, rfl, h2, r2⟩ := hy.lst
      refine .inr (.inr (.inl ⟨a, b, xs, ys, rfl, rfl, h1, h2, ?_, fun p hn kf2 => hq2 _ _ p rfl hn kf2 (r1.append r2)⟩))
      rw [(r1.append r2).length]
      exact lenOk_le hl
    · cases ho
  · rename_i ds es
    simp only [opD] at ho
    split at ho
    · rename_i hl
      cases ho
      obtain ⟨a, xs, rfl, h1, n1, r1⟩ := hx.tup
      obtain ⟨b, ys, rfl, h2, n2, r2⟩ := hy.tup
      have hz : xs.length + ys.length ≤ sizeLine := by
        have := lenOk_le hl
        rw [← (r1.append r2).length, List.length_append] at this
        exact this
      refine .inr (.inr (.inr ⟨a, b, xs, ys, rfl, rfl, h1, h2, hz, fun e _ => ?_, fun _ e _ => ?_, fun _ _ p hn _ => ?_⟩))
      · subst e
        cases r1
        exact hq1 rfl _ _ (Al.refl H) (.tup h2 n2 r2)
      · subst e
        cases r2
        rw [List.append_nil] at hq1
        exact hq1 rfl _ _ (Al.refl H) (.tup h1 n1 r1)
      · refine hq1 rfl _ _ (Al.upd hn) (.tup (.of upd_same) (fun q => ?_) ((r1.append r2).al (Al.upd hn)))
        obtain ⟨o, e⟩ := hp p q
        rw [hn] at e
        cases e
    · cases ho
theorem int_op {op : Operator} {o : Op} {Cn : Int → Int → Prop} {g : Int → Int → Int} (h : OpR X (binaryOp op) (rI Cn fun i j => .int (g i j))) (hd : ∀ d e v, opD o d e = .ok v → ∃ i j, d = .int i ∧ e = .int j ∧ Cn i j ∧ v = .int (g i j)) :
    OpR X (binaryOp op) (rOp X.K o) := by
  refine opr_by h ?_
  rintro x y H Q kf ⟨P, d, e, w, hx, hy, hp, ho, hq1, hq2⟩
  obtain ⟨i, j, rfl, rfl, c, rfl⟩ := hd _ _ _ ho
  exact ⟨i, j, hx.int, hy.int, c, fun _ => hq1 rfl _ _ (Al.refl H) (.int _)⟩
theorem int_op0 {op : Operator} {o : Op} {g : Int → Int → Int} (h : OpR X (binaryOp op) (rI0 fun i j => .int (g i j))) (hd : ∀ d e v, opD o d e = .ok v → ∃ i j, d = .int i ∧ e = .int j ∧ v = .int (g i j)) :
    OpR X (binaryOp op) (rOp X.K o) := by
  refine opr_by h ?_
  rintro x y H Q kf ⟨P, d, e, w, hx, hy, hp, ho, hq1, hq2⟩
  obtain ⟨i, j, rfl, rfl, rfl⟩ := hd _ _ _ ho
  exact ⟨i, j, hx.int, hy.int, fun _ => hq1 rfl _ _ (Al.refl H) (.int _)⟩
theorem op_repR : OpR X (binaryOp .Mult) fun x y H Q => ∃ l k xs, x = .ref l ∧ y = .int k ∧ Rd H l (.lst xs) ∧ 0 ≤ k ∧ k < 2 ^ 63 ∧ xs.length * k.toNat ≤ sizeLine ∧ ∀ p, H p = none → Q (.ref p) (upd H p (.lst (List.replicate k.toNat xs).flatten)) := by
  intro pins s σ H x y v u Q I rx ry ⟨l, k, xs, ex, ey, h1, h2, h3, hz, q⟩
  rcases h1 with h1 | ⟨o, h1⟩
  · exact op_rep pins s σ H x y v u Q I rx ry ⟨l, k, xs, ex, ey, h1, by omega, h3, hz, q⟩
  · -- a locked list: the same, read through the lock
    subst ex
    subst ey
    cases rx
    obtain ⟨t, rfl⟩ := ry
    obtain ⟨z, its, n, r, hl, e⟩ := rd_at I (.inr ⟨o, h1⟩)
    have hlen : its.toArray.size * k.toNat ≤ sizeLine := by
      rw [List.size_toArray, ← hl]
      exact hz
    have hcap : ¬ its.toArray.size * k.toNat > (2 ^ 63 - 1) / 8 := by
      have w1 : (sizeLine : Nat) ≤ (2 ^ 63 - 1) / 8 := by decide
      omega
    have hfit : ¬ (!Builtin.List.listFitsIndex k) = true := by
      rw [fitsIndex_both (by omega) h3]
      decide
    have hlong : ¬ Builtin.List.listTooLong (its.toArray.size * k.toNat) = true := by
      rw [notLongL hlen]
      decide
    have f0 : ∀ m : Nat, List.foldl (fun x1 x2 => x1 ++ x2) #[] (List.replicate m its.toArray) = (List.replicate m its).flatten.toArray := fun m => by
      have w3 := foldl_rep its m []
      simpa using w3
    have hnew : List.foldl (fun x1 x2 => x1 ++ x2) #[] (List.replicate (if its.toArray.isEmpty = true then 0 else k.toNat) its.toArray) = (List.replicate k.toNat its).flatten.toArray := by
      rw [f0]
      cases its with
      | nil => simp
      | cons a r' => simp
    have hT : s.TypeIs (.ref l) "list" := ⟨_, e, rfl⟩
    refine wpAny_binaryOp_repeat_ref (T := "list") (U := "int") (by decide) hT (fun s' => typeIs_int s' k t) noFill_list_mul PySem.F.fills_int_mul PySem.F.slot_int_rmul repeat_list PySem.F.slot_int_index.lookup ?_
    refine call_meets PySem.F.slot_int_rmul (typeIs_int s k t) PySem.F.entry_int_rmul (PySem.F.args_int_rmul_2 _ _) (int___rmul___int_list k t l its.toArray n) ⟨e, rfl, hT, ?_⟩
    refine call_meets PySem.F.slot_list_mul hT PySem.F.entry_list_mul (PySem.F.args_list_mul_2 _ _) (AutoListH.list___mul___list_int_3 l its.toArray n k t hfit hcap hlong) ⟨e, ?_⟩
    rw [hnew]
    refine ⟨V.ref _, _, I.lnew (t' := s.toks) (r.rep k.toNat) ?_, rfl, q _ I.fresh⟩
    rw [PyProof.Rows.lm_len_rep_flat, Nat.mul_comm]
    exact hz
theorem dec2 {a b : Bool} (h : (a && b) = true) : a = true ∧ b = true := Bool.and_eq_true_iff.mp h
theorem smallI_ok {i : Int} (h : smallI i = true) : -(2 ^ 64) < i ∧ i < 2 ^ 64 := by
  obtain ⟨h1, h2⟩ := dec2 h
  exact ⟨of_decide_eq_true h1, of_decide_eq_true h2⟩
theorem opMul_ok : OpR X (binaryOp .Mult) (rOp X.K .mul) := by
  refine opr_by ((op_mul (X := X)).or op_repR) ?_
  rintro x y H Q kf ⟨P, d, e, w, hx, hy, hp, ho, hq1, hq2⟩
  cases d <;> cases e <;> try (simp [opD] at ho; done)
  · rename_i i j
    simp only [opD] at ho
    split at ho
    · rename_i hl
      cases ho
      refine .inl ⟨i, j, hx.int, hy.int, ?_, fun _ => hq1 rfl _ _ (Al.refl H) (.int _)⟩
      rcases Bool.or_eq_true_iff.mp hl with h | h
      · exact .inl (smallI_ok h)
      · exact .inr (smallI_ok h)
    · cases ho
  · rename_i ds k
    simp only [opD] at ho
    split at ho
    · rename_i hl
      cases ho
      obtain ⟨h0, h2⟩ := dec2 hl
      obtain ⟨h1, h3⟩ := dec2 h0
      have h1' : 0 ≤ k := of_decide_eq_true h1
      have h3' : k < 1000000 := of_decide_eq_true h3
      have h2' : ds.length * k.toNat < lim := of_decide_eq_true h2
      obtain ⟨a, xs, rfl, h4, r1⟩ := hx.lst
      have e1 := hy.int
      refine .inr ⟨a, k, xs, rfl, e1, h4, h1', by omega, ?_, fun p hn kf2 => hq2 _ _ p rfl hn kf2 (r1.rep _)⟩
      rw [r1.length]
      exact Nat.le_trans (Nat.le_of_lt h2') lim_line
    · cases ho
theorem opSub_ok : OpR X (binaryOp .Sub) (rOp X.K .sub) := int_op0 op_sub fun d e v h => by
  cases d <;> cases e <;> simp [opD] at h
  exact ⟨_, _, rfl, rfl, h.symm⟩
theorem opFdiv_ok : OpR X (binaryOp .FloorDiv) (rOp X.K .fdiv) := int_op op_fdiv fun d e v h => by
  cases d <;> cases e <;> simp only [opD] at h <;> try (cases h; done)
  split at h
  · rename_i c
    cases h
    obtain ⟨h1, h2⟩ := dec2 c
    exact ⟨_, _, rfl, rfl, ⟨of_decide_eq_true h1, of_decide_eq_true h2⟩, rfl⟩
  · cases h
theorem opMod_ok : OpR X (binaryOp .Mod) (rOp X.K .mod) := int_op op_mod fun d e v h => by
  cases d <;> cases e <;> simp only [opD] at h <;> try (cases h; done)
  split at h
  · rename_i c
    cases h
    exact ⟨_, _, rfl, rfl, of_decide_eq_true c, rfl⟩
  · cases h
theorem opShl_ok : OpR X (binaryOp .LShift) (rOp X.K .shl) := int_op op_shl fun d e v h => by
  cases d <;> cases e <;> simp only [opD] at h <;> try (cases h; done)
  split at h
  · rename_i c
    cases h
    obtain ⟨h1, h2⟩ := dec2 c
    obtain ⟨h3, h4⟩ := dec2 h1
    exact ⟨_, _, rfl, rfl, ⟨of_decide_eq_true h3, of_decide_eq_true h4, of_decide_eq_true h2⟩, rfl⟩
  · cases h
theorem opShr_ok : OpR X (binaryOp .RShift) (rOp X.K .shr) := int_op op_shr fun d e v h => by
  cases d <;> cases e <;> simp only [opD] at h <;> try (cases h; done)
  split at h
  · rename_i c
    cases h
    exact ⟨_, _, rfl, rfl, of_decide_eq_true c, rfl⟩
  · cases h
theorem opAnd_ok : OpR X (binaryOp .BitAnd) (rOp X.K .band) := int_op0 op_and fun d e v h => by
  cases d <;> cases e <;> simp [opD] at h
  exact ⟨_, _, rfl, rfl, h.symm⟩
theorem opOr_ok : OpR X (binaryOp .BitOr) (rOp X.K .bor) := int_op0 op_or fun d e v h => by
  cases d <;> cases e <;> simp [opD] at h
  exact ⟨_, _, rfl, rfl, h.symm⟩
theorem opXor_ok : OpR X (binaryOp .BitXor) (rOp X.K .bxor) := int_op0 op_xor fun d e v h => by
  cases d <;> cases e <;> simp [opD] at h
  exact ⟨_, _, rfl, rfl, h.symm⟩
theorem op_ok : ∀ o : Op, OpR X (binaryOp (opP o)) (rOp X.K o)
  | .add => opAdd_ok | .sub => opSub_ok | .mul => opMul_ok | .fdiv => opFdiv_ok | .mod => opMod_ok | .shl => opShl_ok | .shr => opShr_ok | .band => opAnd_ok | .bor => opOr_ok | .bxor => opXor_ok

/-! ### comparisons -/
def cpP : Cp → CmpOp
  | .eq => .Eq | .ne => .NotEq | .lt => .Lt | .le => .LtE | .gt => .Gt | .ge => .GtE | .isIn => .In | .notIn => .NotIn | .is_ => .Is | .isNot => .IsNot
def rCp (K : PySem.W.Frag) (o : Cp) : R2 := fun x y H Q => ∃ P d e b, RepC K H P x d ∧ RepC K H P y e ∧ cmpD o d e = .ok b ∧ Q (.bl b) H
mutual
theorem shap_lay : ∀ (n : Nat) (d : D), shap n d = true → d.canLay0 = true ∧ d.depth ≤ n
  | n, .none, _ => by cases n <;> simp [PyData.canLay0, PyData.depth]
  | n, .bool _, _ => by cases n <;> simp [PyData.canLay0, PyData.depth]
  | n, .int _, _ => by cases n <;> simp [PyData.canLay0, PyData.depth]
  | n, .str _, h => by cases n <;> simpa [PyData.canLay0, PyData.depth, shap] using h
  | 0, .tuple xs, h => by simp [shap] at h
  | n + 1, .tuple xs, h => by
    simp only [shap] at h
    obtain ⟨h1, h2⟩ := shaps_lay n xs h
    simp [PyData.canLay0, PyData.depth, h1]
    omega
  | 0, .list xs, h => by simp [shap] at h
  | n + 1, .list xs, h => by
    simp only [shap] at h
    obtain ⟨h1, h2⟩ := shaps_lay n xs h
    simp [PyData.canLay0, PyData.depth, h1]
    omega
  | n, .dict _, h => by cases n <;> simp [shap] at h
theorem shaps_lay : ∀ (n : Nat) (xs : List D), shaps n xs = true → PyData.canLayAll0 xs = true ∧ PyData.depthAll xs ≤ n
  | n, [], _ => by simp [PyData.canLayAll0, PyData.depthAll]
  | n, x :: xs, h => by
    simp only [shaps, Bool.and_eq_true] at h
    obtain ⟨h1, h2⟩ := shap_lay n x h.1
    obtain ⟨h3, h4⟩ := shaps_lay n xs h.2
    simp [PyData.canLayAll0, PyData.depthAll, h1, h3]
    omega
end
theorem shap_shaped {d : D} (h : shap 30 d = true) : SeqAt.shaped d = true := by
  obtain ⟨h1, h2⟩ := shap_lay 30 d h
  unfold SeqAt.shaped
  rw [h1]
  simp
  omega
theorem shaps_shaped {ds : List D} (h : shaps 30 ds = true) : SeqAt.shaped (.list ds) = true := by
  obtain ⟨h1, h2⟩ := shaps_lay 30 ds h
  unfold SeqAt.shaped
  simp [PyData.canLay0, PyData.depth, h1]
  omega
theorem cp_i {op : CmpOp} {o : Cp} {g : Int → Int → Bool} (h : OpR X (compareOp op) (rI0 fun i j => .bl (g i j))) (hd : ∀ d e b, cmpD o d e = .ok b → ∃ i j, d = .int i ∧ e = .int j ∧ b = g i j) :
    OpR X (compareOp op) (rCp X.K o) := by
  refine opr_by h ?_
  rintro x y H Q kf ⟨P, d, e, b, hx, hy, ho, hq⟩
  obtain ⟨i, j, rfl, rfl, rfl⟩ := hd _ _ _ ho
  exact ⟨i, j, hx.int, hy.int, fun _ => hq⟩
theorem cpEq_ok (hu : X.A.units + 65 < cLine) : OpR X (compareOp .Eq) (rCp X.K .eq) := by
  refine opr_by (op_eqD (by omega)) ?_
  rintro x y H Q kf ⟨P, d, e, b, hx, hy, ho, hq⟩
  simp only [cmpD] at ho
  split at ho
  · rename_i c
    cases ho
    obtain ⟨h1, h2⟩ := dec2 c
    exact ⟨d, e, hx.dp, hy.dp, shap_shaped h1, shap_shaped h2, fun _ => hq⟩
  · cases ho
theorem cpNe_ok (hu : X.A.units + 65 < cLine) : OpR X (compareOp .NotEq) (rCp X.K .ne) := by
  refine opr_by (op_neD (by omega)) ?_
  rintro x y H Q kf ⟨P, d, e, b, hx, hy, ho, hq⟩
  simp only [cmpD] at ho
  split at ho
  · rename_i c
    cases ho
    obtain ⟨h1, h2⟩ := dec2 c
    exact ⟨d, e, hx.dp, hy.dp, shap_shaped h1, shap_shaped h2, fun _ => hq⟩
  · cases ho
theorem flatD_V {P : Addr → Prop} {K : PySem.W.Frag} {H : Hp} {v : V} {d : D} (r : Rep K H P v d) (h : flatD d = true) : flatV v = true := by
  cases r <;> first | rfl | cases h
theorem flatDs_V {P : Addr → Prop} {K : PySem.W.Frag} {H : Hp} : ∀ {vs : List V} {ds : List D}, RepL K H P vs ds → ds.all flatD = true → vs.all flatV = true
  | _, _, .nil, _ => rfl
  | _, _, .cons r t, h => by
    rw [List.all_cons] at h ⊢
    obtain ⟨h1, h2⟩ := dec2 h
    rw [flatD_V r h1, flatDs_V t h2]
    rfl
theorem eqV_eqv {P P' : Addr → Prop} {K : PySem.W.Frag} {H H' : Hp} {v w : V} {d e : D} (r : Rep K H P v d) (q : Rep K H' P' w e) (h1 : flatD d = true) (h2 : flatD e = true) : eqV v w = PyData.eqv d e := by
  cases r <;> cases q <;> first | rfl | (simp [eqV, PyData.eqv]; done) | cases h1 | cases h2
theorem inV_any {P P' : Addr → Prop} {K : PySem.W.Frag} {H H' : Hp} {x : V} {d : D} (r : Rep K H' P' x d) (h : flatD d = true) : ∀ {vs : List V} {ds : List D}, RepL K H P vs ds → ds.all flatD = true → inV x vs = ds.any fun z => PyData.eqv z d
  | _, _, .nil, _ => rfl
  | _, _, .cons q t, hs => by
    rw [List.all_cons] at hs
    obtain ⟨h1, h2⟩ := dec2 hs
    unfold inV
    rw [List.any_cons, List.any_cons, eqV_eqv q r h1 h]
    have ih := inV_any r h t h2
    unfold inV at ih
    rw [ih]
theorem RepC.flat {P : Addr → Prop} {K : PySem.W.Frag} {H : Hp} {v : V} {d : D} (r : RepC K H P v d) (h : flatD d = true) : Rep K H P v d := by
  cases r with
  | cl r => exact r
  | top => cases h
theorem cpIn_ok (hu : X.A.units + 65 < cLine) : OpR X (compareOp .In) (rCp X.K .isIn) := by
  refine opr_by ((op_inD hu).or op_in_seq) ?_
  rintro x y H Q kf ⟨P, d, e, b, hx, hy, ho, hq⟩
  simp only [cmpD, inD] at ho
  cases e with
  | list ds =>
    simp only at ho
    split at ho
    · rename_i c
      cases ho
      obtain ⟨h1, h2⟩ := dec2 c
      exact .inl ⟨d, ds, hx.dp, hy.dp, shap_shaped h1, shaps_shaped h2, fun _ => hq⟩
    · cases ho
  | tuple ds =>
    simp only at ho
    split at ho
    · rename_i c
      cases ho
      obtain ⟨h1, h2⟩ := dec2 c
      obtain ⟨a, xs, rfl, h3, _, r⟩ := hy.tup
      refine .inr ⟨a, xs, rfl, .inr h3, flatD_V (hx.flat h1) h1, flatDs_V r h2, fun _ => ?_⟩
      rw [if_neg Bool.false_ne_true, inV_any (hx.flat h1) h1 r h2]
      exact hq
    · cases ho
  | dict kvs =>
    cases hy with
    | cl h => cases h
  | _ => cases ho
theorem cpNotIn_ok (hu : X.A.units + 65 < cLine) : OpR X (compareOp .NotIn) (rCp X.K .notIn) := by
  refine opr_by ((op_notInD hu).or op_notIn_seq) ?_
  rintro x y H Q kf ⟨P, d, e, b, hx, hy, ho, hq⟩
  simp only [cmpD, inD] at ho
  cases e with
  | list ds =>
    simp only at ho
    split at ho
    · rename_i c
      cases ho
      obtain ⟨h1, h2⟩ := dec2 c
      exact .inl ⟨d, ds, hx.dp, hy.dp, shap_shaped h1, shaps_shaped h2, fun _ => hq⟩
    · cases ho
  | tuple ds =>
    simp only at ho
    split at ho
    · rename_i c
      cases ho
      obtain ⟨h1, h2⟩ := dec2 c
      obtain ⟨a, xs, rfl, h3, _, r⟩ := hy.tup
      refine .inr ⟨a, xs, rfl, .inr h3, flatD_V (hx.flat h1) h1, flatDs_V r h2, fun _ => ?_⟩
      rw [if_pos rfl, inV_any (hx.flat h1) h1 r h2]
      exact hq
    · cases ho
  | dict kvs =>
    cases hy with
    | cl h => cases h
  | _ => cases ho
theorem RepC.isNon {P : Addr → Prop} {K : PySem.W.Frag} {H : Hp} {v : V} {d : D} (r : RepC K H P v d) : decide (v = .non) = isNoneD d := by
  cases r with
  | cl r => cases r <;> rfl
  | top => rfl
end
end JK

end
section
set_option Elab.async false
set_option linter.all false
set_option autoImplicit false
set_option maxRecDepth 100000
set_option maxHeartbeats 1000000
/-! JkBi: is, isinstance, truth, built-in functions, items, slices by value. -/
namespace JK
open PySem PySem.Spec L2
section
variable {X : Cx}
theorem cpIs_ok : OpR X (compareOp .Is) (rCp X.K .is_) := by
  refine opr_by ((op_isN (X := X)).or op_is_bl) ?_
  rintro x y H Q kf ⟨P, d, e, b, hx, hy, ho, hq⟩
  cases e with
  | none =>
    simp only [cmpD, Except.ok.injEq] at ho
    refine .inl ⟨hy.non, fun _ => ?_⟩
    have e2 : decide (x = V.non) = b := by
      rw [hx.isNon, ← ho]
    rw [e2]
    exact hq
  | bool c =>
    cases d with
    | bool a =>
      simp only [cmpD, Except.ok.injEq] at ho
      refine .inr ⟨a, c, hx.bl, hy.bl, fun _ => ?_⟩
      rw [← ho] at hq
      have e : decide (a = c) = (a == c) := by cases a <;> cases c <;> rfl
      rw [e]
      exact hq
    | _ => simp [cmpD] at ho
  | _ => cases d <;> simp [cmpD] at ho
theorem cpIsNot_ok : OpR X (compareOp .IsNot) (rCp X.K .isNot) := by
  refine opr_by ((op_notN (X := X)).or op_isnot_bl) ?_
  rintro x y H Q kf ⟨P, d, e, b, hx, hy, ho, hq⟩
  cases e with
  | none =>
    simp only [cmpD, Except.ok.injEq] at ho
    refine .inl ⟨hy.non, fun _ => ?_⟩
    have e2 : (!decide (x = V.non)) = b := by
      rw [hx.isNon, ← ho]
    rw [e2]
    exact hq
  | bool c =>
    cases d with
    | bool a =>
      simp only [cmpD, Except.ok.injEq] at ho
      refine .inr ⟨a, c, hx.bl, hy.bl, fun _ => ?_⟩
      rw [← ho] at hq
      have e : decide (a = c) = (a == c) := by cases a <;> cases c <;> rfl
      rw [e]
      exact hq
    | _ => simp [cmpD] at ho
  | _ => cases d <;> simp [cmpD] at ho
theorem cp_ok (hu : X.A.units + 65 < cLine) : ∀ o : Cp, OpR X (compareOp (cpP o)) (rCp X.K o)
  | .eq => cpEq_ok hu | .ne => cpNe_ok hu | .isIn => cpIn_ok hu | .notIn => cpNotIn_ok hu | .is_ => cpIs_ok | .isNot => cpIsNot_ok
  | .lt => cp_i op_lt fun d e b h => by
    cases d <;> cases e <;> simp [cmpD] at h
    exact ⟨_, _, rfl, rfl, h.symm⟩
  | .le => cp_i op_le fun d e b h => by
    cases d <;> cases e <;> simp [cmpD] at h
    exact ⟨_, _, rfl, rfl, h.symm⟩
  | .gt => cp_i op_gt fun d e b h => by
    cases d <;> cases e <;> simp [cmpD] at h
    exact ⟨_, _, rfl, rfl, h.symm⟩
  | .ge => cp_i op_ge fun d e b h => by
    cases d <;> cases e <;> simp [cmpD] at h
    exact ⟨_, _, rfl, rfl, h.symm⟩

/-! ### truth -/
theorem tru_of {P : Addr → Prop} {K : PySem.W.Frag} {H : Hp} {v : V} {d : D} {b : Bool} (r : RepC K H P v d) (h : truthy d = some b) : TruV K v H b := by
  cases d with
  | none => cases h; rw [r.non]; rfl
  | bool c => cases h; rw [r.bl]; rfl
  | int i =>
    simp only [truthy, Option.some.injEq] at h
    rw [r.int]
    exact h.symm
  | str s =>
    simp only [truthy] at h
    split at h
    · rename_i c
      cases h
      rw [r.str]
      refine ⟨?_, rfl⟩
      have := of_decide_eq_true c
      rw [sizeLine_eq]
      omega
    · cases h
  | list ds =>
    simp only [truthy, Option.some.injEq] at h
    obtain ⟨a, xs, rfl, h1, r1⟩ := r.lst
    refine .inl ⟨xs, .inl h1, ?_⟩
    rw [← h]
    cases r1 <;> rfl
  | tuple ds =>
    simp only [truthy, Option.some.injEq] at h
    obtain ⟨a, xs, rfl, h1, _, r1⟩ := r.tup
    refine .inr (.inl ⟨xs, h1, ?_⟩)
    rw [← h]
    cases r1 <;> rfl
  | dict _ => cases h

/-! ### isinstance -/
def tyN : D → String
  | .none => "NoneType" | .bool _ => "bool" | .int _ => "int" | .str _ => "str" | .tuple _ => "tuple" | .list _ => "list" | .dict _ => "dict"
theorem ty_of {P : Addr → Prop} {K : PySem.W.Frag} {H : Hp} {v : V} {d : D} (r : RepC K H P v d) : TyX K H v (.type (tyN d)) := by
  cases d with
  | none => rw [r.non]; exact .base .non
  | bool c => rw [r.bl]; exact .base (.bl _)
  | int i => rw [r.int]; exact .base (.int _)
  | str s => rw [r.str]; exact .base (.str _)
  | list ds =>
    obtain ⟨a, xs, rfl, h1, r1⟩ := r.lst
    rcases h1 with h1 | ⟨o, h1⟩
    · exact .base (.lst h1)
    · exact .base (.frz h1)
  | tuple ds =>
    obtain ⟨a, xs, rfl, h1, _, r1⟩ := r.tup
    rcases h1 with (h1 | ⟨o, h1⟩) | ⟨o, its, n, h1, h2, _⟩
    · exact .base (.tup h1)
    · exact .fTuple h1
    · exact .kTuple h1 h2
  | dict _ => 
    cases r with
    | cl r => cases r
def isTys : List String := ["int", "bool", "tuple", "str", "list"]
theorem kit_tab : ∀ d : D, (∀ k, d ≠ .dict k) → ∀ t ∈ isTys, ∃ b, isiD t d = .ok b ∧ kitB (tyN d) t = some b := by
  intro d hd t ht
  have k1 : ∀ a ∈ ["NoneType", "bool", "int", "str", "tuple", "list"], ∀ t ∈ isTys, kitB a t = some ((a == t) || (a == "bool" && t == "int")) := by decide +kernel
  have e : tyN d ∈ ["NoneType", "bool", "int", "str", "tuple", "list"] := by
    cases d <;> first | (simp [tyN]; done) | exact absurd rfl (hd _)
  rw [k1 _ e t ht]
  refine ⟨_, ?_, rfl⟩
  simp only [isTys, List.mem_cons, List.not_mem_nil, or_false] at ht
  rcases ht with rfl | rfl | rfl | rfl | rfl <;> cases d <;> first | rfl | exact absurd rfl (hd _)
def rIsi' (K : PySem.W.Frag) (t : String) : List V → Hp → VK → Prop := fun xs H Q => ∃ P d x b, xs = [x, .ty t] ∧ RepC K H P x d ∧ isiD t d = .ok b ∧ Q (.bl b) H
theorem isi_ok {t : String} (ht : t ∈ isTys) : CallR X (.builtin "isinstance") (rIsi' X.K t) := by
  intro pins s σ H xs us Q I r ⟨P, d, x, b, e, hx, hb, q⟩
  subst e
  have hd : ∀ k, d ≠ .dict k := fun k e => by
    subst e
    cases hx with
    | cl h => cases h
  obtain ⟨c, e1, e2⟩ := kit_tab d hd t ht
  rw [hb] at e1
  cases e1
  exact call_isi pins s σ H _ us Q I r ⟨x, .ty t, _, _, b, rfl, .ty t, ty_of hx, kit_ty e2, q⟩

/-! ### sorting -/
theorem insI_perm (i : Int) : ∀ l, (insI i l).Perm (i :: l)
  | [] => .refl _
  | j :: r => by
    unfold insI
    split
    · exact .refl _
    · exact ((insI_perm i r).cons j).trans (.swap i j r)
theorem sortI_perm : ∀ l, (sortI l).Perm l
  | [] => .refl _
  | i :: r => (insI_perm i _).trans ((sortI_perm r).cons i)
theorem insI_sorted (i : Int) : ∀ {l : List Int}, l.Pairwise (· ≤ ·) → (insI i l).Pairwise (· ≤ ·)
  | [], _ => List.pairwise_singleton _ _
  | j :: r, h => by
    obtain ⟨h1, h2⟩ := List.pairwise_cons.mp h
    unfold insI
    split
    · rename_i c
      refine List.pairwise_cons.mpr ⟨fun y hy => ?_, h⟩
      rcases List.mem_cons.mp hy with rfl | hy
      · exact c
      · exact Int.le_trans c (h1 y hy)
    · rename_i c
      refine List.pairwise_cons.mpr ⟨fun y hy => ?_, insI_sorted i h2⟩
      rcases List.mem_cons.mp ((insI_perm i r).mem_iff.mp hy) with rfl | hy
      · omega
      · exact h1 y hy
theorem sortI_sorted : ∀ l : List Int, (sortI l).Pairwise (· ≤ ·)
  | [] => .nil
  | i :: r => insI_sorted i (sortI_sorted r)
theorem sortI_eq {l m : List Int} (p : l.Perm m) (h : l.Pairwise (· ≤ ·)) : l = sortI m := PySem.W.ksm_same (p.trans (sortI_perm m).symm) h (sortI_sorted m)
theorem mem_nubI {i : Int} : ∀ {l : List Int}, i ∈ nubI l ↔ i ∈ l
  | [] => .rfl
  | j :: r => by
    unfold nubI
    split
    · rename_i c
      rw [mem_nubI (l := r), List.mem_cons]
      have hj : j ∈ r := by simpa using c
      exact ⟨.inr, fun h => h.elim (fun e => e ▸ hj) id⟩
    · rw [List.mem_cons, List.mem_cons, mem_nubI (l := r)]
theorem nodup_nubI : ∀ l : List Int, (nubI l).Nodup
  | [] => List.nodup_nil
  | j :: r => by
    unfold nubI
    split
    · exact nodup_nubI r
    · rename_i c
      refine List.nodup_cons.mpr ⟨fun h => c ?_, nodup_nubI r⟩
      simpa using mem_nubI.mp h
theorem nubI_len : ∀ l : List Int, (nubI l).length ≤ l.length
  | [] => Nat.le_refl _
  | j :: r => by
    unfold nubI
    split
    · exact Nat.le_succ_of_le (nubI_len r)
    · exact Nat.succ_le_succ (nubI_len r)
theorem sset_eq {l m : List Int} (h : l.Pairwise (· < ·)) (hm : ∀ k, k ∈ l ↔ k ∈ m) : l = sortI (nubI m) := by
  refine sortI_eq ?_ (h.imp fun h => Int.le_of_lt h)
  refine (List.perm_ext_iff_of_nodup (h.imp fun h => (Int.ne_of_lt h)) (nodup_nubI m)).mpr fun k => ?_
  rw [hm k, mem_nubI]

/-! ### built-in functions -/
def rBi (K : PySem.W.Frag) (b : Bi) : List V → Hp → VK → Prop := fun xs H Q => ∃ P ds v, RepCs K H P xs ds ∧ (∀ a, P a → ∃ o, H a = some o) ∧ biD b ds = .ok v ∧ Res K H P v Q
theorem callr_by {f : Value} {r r' : List V → Hp → VK → Prop} (h : CallR X f r) (w : ∀ xs H Q, KF X.K H → r' xs H Q → r xs H fun v H' => KF X.K H' → Q v H') : CallR X f r' :=
  fun pins s σ H xs us Q I rx hq => thn (h pins s σ H xs us _ I rx (w xs H Q (kf_of I) hq)) fun _ _ ⟨v, H', I', r, q⟩ => ⟨v, H', I', r, q (kf_of I')⟩
theorem maxI_ok : ∀ {l : List Int}, l ≠ [] → ∀ {m : Int}, m ∈ l → (∀ y, y ∈ l → y ≤ m) → m = maxI l
  | [], h, _, _, _ => absurd rfl h
  | [i], _, m, hm, _ => by
    simp at hm
    exact hm
  | i :: j :: r, _, m, hm, hy => by
    have hmax : ∀ l : List Int, l ≠ [] → maxI l ∈ l ∧ ∀ y ∈ l, y ≤ maxI l := by
      intro l
      induction l with
      | nil => intro h; exact absurd rfl h
      | cons a t ih =>
        intro _
        cases t with
        | nil => simp [maxI]
        | cons b u =>
          obtain ⟨i1, i2⟩ := ih (by simp)
          have e : maxI (a :: b :: u) = max a (maxI (b :: u)) := rfl
          rw [e]
          refine ⟨?_, fun y hy => ?_⟩
          · rcases Int.le_total a (maxI (b :: u)) with c | c
            · rw [Int.max_eq_right c]
              exact List.mem_cons_of_mem _ i1
            · rw [Int.max_eq_left c]
              exact List.mem_cons_self
          · rcases List.mem_cons.mp hy with rfl | hy
            · exact Int.le_max_left _ _
            · exact Int.le_trans (i2 y hy) (Int.le_max_right _ _)
    obtain ⟨h1, h2⟩ := hmax (i :: j :: r) (by simp)
    exact Int.le_antisymm (h2 m hm) (hy _ h1)
theorem minI_ok : ∀ {l : List Int}, l ≠ [] → ∀ {m : Int}, m ∈ l → (∀ y, y ∈ l → m ≤ y) → m = minI l
  | [], h, _, _, _ => absurd rfl h
  | [i], _, m, hm, _ => by
    simp at hm
    exact hm
  | i :: j :: r, _, m, hm, hy => by
    have hmin : ∀ l : List Int, l ≠ [] → minI l ∈ l ∧ ∀ y ∈ l, minI l ≤ y := by
      intro l
      induction l with
      | nil => intro h; exact absurd rfl h
      | cons a t ih =>
        intro _
        cases t with
        | nil => simp [minI]
        | cons b u =>
          obtain ⟨i1, i2⟩ := ih (by simp)
          have e : minI (a :: b :: u) = min a (minI (b :: u)) := rfl
          rw [e]
          refine ⟨?_, fun y hy => ?_⟩
          · rcases Int.le_total a (minI (b :: u)) with c | c
            · rw [Int.min_eq_left c]
              exact List.mem_cons_self
            · rw [Int.min_eq_right c]
              exact List.mem_cons_of_mem _ i1
          · rcases List.mem_cons.mp hy with rfl | hy
            · exact Int.min_le_left _ _
            · exact Int.le_trans (Int.min_le_right _ _) (i2 y hy)
    obtain ⟨h1, h2⟩ := hmin (i :: j :: r) (by simp)
    exact Int.le_antisymm (hy _ h1) (h2 m hm)
theorem intsD_nil {ds : List D} (h : intsD ds = some []) : ds = [] := by
  cases ds with
  | nil => rfl
  | cons d r =>
    cases d <;> simp [intsD] at h
theorem biLen_ok : CallR X (.builtin "len") (rBi X.K .len) := by
  refine callr_by (call_len_seq.or call_len_str) ?_
  rintro xs H Q kf ⟨P, ds, v, hx, hp, hb, hq, _⟩
  rcases ds with _ | ⟨d, _ | ⟨e, r⟩⟩
  · cases hb
  · obtain ⟨u, rfl, hu⟩ := hx.one
    cases d <;> simp only [biD, Except.ok.injEq] at hb <;> try (cases hb; done)
    · split at hb
      · rename_i c
        cases hb
        exact .inr ⟨_, by rw [hu.str], Nat.le_trans (Nat.le_of_lt (of_decide_eq_true c)) lim_line, fun _ => hq rfl _ _ (Al.refl H) (.int _)⟩
      · cases hb
    · subst hb
      obtain ⟨a, zs, rfl, h1, r1⟩ := hu.lst
      refine .inl ⟨a, zs, rfl, .inl (.inl h1), fun _ => ?_⟩
      rw [r1.length]
      exact hq rfl _ _ (Al.refl H) (.int _)
    · subst hb
      obtain ⟨a, zs, rfl, h1, _, r1⟩ := hu.tup
      refine .inl ⟨a, zs, rfl, .inr h1, fun _ => ?_⟩
      rw [r1.length]
      exact hq rfl _ _ (Al.refl H) (.int _)
    · cases hu with
      | cl h => cases h
  · cases d <;> simp [biD] at hb
theorem biAbs_ok : CallR X (.builtin "abs") (rBi X.K .abs) := by
  refine callr_by call_abs ?_
  rintro xs H Q kf ⟨P, ds, v, hx, hp, hb, hq, _⟩
  rcases ds with _ | ⟨d, _ | ⟨e, r⟩⟩
  · cases hb
  · obtain ⟨u, rfl, hu⟩ := hx.one
    cases d <;> simp only [biD, Except.ok.injEq] at hb <;> try (cases hb; done)
    subst hb
    exact ⟨_, by rw [hu.int], fun _ => hq rfl _ _ (Al.refl H) (.int _)⟩
  · cases d <;> simp [biD] at hb
theorem biInt_ok : CallR X (.type "int") (rBi X.K .int) := by
  refine callr_by call_int1 ?_
  rintro xs H Q kf ⟨P, ds, v, hx, hp, hb, hq, _⟩
  rcases ds with _ | ⟨d, _ | ⟨e, r⟩⟩
  · cases hb
  · obtain ⟨u, rfl, hu⟩ := hx.one
    cases d <;> simp only [biD, Except.ok.injEq] at hb <;> try (cases hb; done)
    · subst hb
      exact .inr ⟨_, by rw [hu.bl], fun _ => hq rfl _ _ (Al.refl H) (.int _)⟩
    · subst hb
      exact .inl ⟨_, by rw [hu.int], fun _ => hq rfl _ _ (Al.refl H) (.int _)⟩
  · cases d <;> simp [biD] at hb
theorem biSum_ok (hc : X.calm = true) : CallR X (.builtin "sum") (rBi X.K .sum) := by
  refine callr_by (cr_sum hc) ?_
  rintro xs H Q kf ⟨P, ds, v, hx, hp, hb, hq, _⟩
  rcases ds with _ | ⟨d, _ | ⟨e, r⟩⟩
  · cases hb
  · obtain ⟨u, rfl, hu⟩ := hx.one
    cases d <;> simp only [biD] at hb <;> try (cases hb; done)
    obtain ⟨a, zs, rfl, h1, r1⟩ := hu.lst
    split at hb
    · rename_i ns e
      cases hb
      rw [r1.intsV e] at h1
      exact ⟨a, ns, rfl, .inl h1, fun _ => hq rfl _ _ (Al.refl H) (.int _)⟩
    · cases hb
  · cases d <;> simp [biD] at hb
theorem biAny_ok (hc : X.calm = true) : CallR X (.builtin "any") (rBi X.K .any) := by
  refine callr_by (cr_any hc) ?_
  rintro xs H Q kf ⟨P, ds, v, hx, hp, hb, hq, _⟩
  rcases ds with _ | ⟨d, _ | ⟨e, r⟩⟩
  · cases hb
  · obtain ⟨u, rfl, hu⟩ := hx.one
    cases d <;> simp only [biD] at hb <;> try (cases hb; done)
    obtain ⟨a, zs, rfl, h1, r1⟩ := hu.lst
    split at hb
    · rename_i ns e
      cases hb
      rw [r1.boolsV e] at h1
      exact ⟨a, ns, rfl, .inl h1, fun _ => hq rfl _ _ (Al.refl H) (.bl _)⟩
    · cases hb
  · cases d <;> simp [biD] at hb
theorem biAll_ok (hc : X.calm = true) : CallR X (.builtin "all") (rBi X.K .all) := by
  refine callr_by (cr_all hc) ?_
  rintro xs H Q kf ⟨P, ds, v, hx, hp, hb, hq, _⟩
  rcases ds with _ | ⟨d, _ | ⟨e, r⟩⟩
  · cases hb
  · obtain ⟨u, rfl, hu⟩ := hx.one
    cases d <;> simp only [biD] at hb <;> try (cases hb; done)
    obtain ⟨a, zs, rfl, h1, r1⟩ := hu.lst
    split at hb
    · rename_i ns e
      cases hb
      rw [r1.boolsV e] at h1
      exact ⟨a, ns, rfl, .inl h1, fun _ => hq rfl _ _ (Al.refl H) (.bl _)⟩
    · cases hb
  · cases d <;> simp [biD] at hb
theorem reads_ints {h : Heap} : ∀ {its : List Value} {ns : List Int}, PyProof.Rows.IntsAre its ns → ReadsAll h its (ns.map .int) []
  | _, _, .nil => .nil
  | _, _, .cons n t r => .cons (as := []) (bs := []) (.int n t) (reads_ints r)
theorem ints_alike (ns : List Int) : PySem.W.AlikeAll (ns.map PyData.int) := by
  constructor
  · intro x hx y hy
    obtain ⟨i, _, rfl⟩ := List.mem_map.mp hx
    obtain ⟨j, _, rfl⟩ := List.mem_map.mp hy
    rfl
  · intro x hx
    obtain ⟨i, _, rfl⟩ := List.mem_map.mp hx
    exact fun z => nomatch z
theorem ints_depth : ∀ ns : List Int, PyData.depthAll (ns.map PyData.int) = 0
  | [] => rfl
  | n :: ns => by
    rw [List.map_cons, PyData.depthAll, ints_depth ns]
    rfl
theorem maxI_fold : ∀ (r : List Int) (i : Int), r.foldl max i = maxI (i :: r)
  | [], i => rfl
  | j :: r, i => by
    rw [List.foldl_cons, maxI_fold r (max i j)]
    have key : ∀ (r : List Int) (a b : Int), maxI (max a b :: r) = max a (maxI (b :: r)) := fun r a b => by
      cases r with
      | nil => rfl
      | cons c r => show max (max a b) (maxI (c :: r)) = max a (max b (maxI (c :: r))); omega
    exact key r i j
theorem minI_fold : ∀ (r : List Int) (i : Int), r.foldl min i = minI (i :: r)
  | [], i => rfl
  | j :: r, i => by
    rw [List.foldl_cons, minI_fold r (min i j)]
    have key : ∀ (r : List Int) (a b : Int), minI (min a b :: r) = min a (minI (b :: r)) := fun r a b => by
      cases r with
      | nil => rfl
      | cons c r => show min (min a b) (minI (c :: r)) = min a (min b (minI (c :: r))); omega
    exact key r i j
def rMaxT (K : PySem.W.Frag) : List V → Hp → VK → Prop := fun xs H Q => ∃ (a : Addr) (i : Int) (r : List Int), xs = [.ref a] ∧ SqT K H a ((i :: r).map V.int) ∧ Q (.int (maxI (i :: r))) H
def rMinT (K : PySem.W.Frag) : List V → Hp → VK → Prop := fun xs H Q => ∃ (a : Addr) (i : Int) (r : List Int), xs = [.ref a] ∧ SqT K H a ((i :: r).map V.int) ∧ Q (.int (minI (i :: r))) H
theorem cr_maxT (hc : X.calm = true) (hu : X.A.units + 100 < cLine) : CallR X (.builtin "max") (rMaxT X.K) := by
  intro pins s σ H xs us Q I rx ⟨a, i, r, ex, sq, q⟩
  subst ex
  obtain ⟨its, rv, pl, _⟩ := I.tuple sq
  rw [Vals.ref1 rx]
  have rd := reads_ints (h := s.heap) rv.ints
  refine PySem.W.max_tuple_data (x := .int i) (xs := r.map .int) (I.ok.hd hc) (show s.heap.IsTuple a its.toArray from pl) rd (ints_alike (i :: r)) (by rw [show (PyData.int i :: r.map PyData.int) = (i :: r).map PyData.int from rfl, ints_depth]; omega) fun j v h1 tk bs e rr kp => ?_
  rw [PySem.W.maxD_ints, maxI_fold] at rr
  cases rr
  exact ⟨.int _, H, I.kept kp, ⟨_, rfl⟩, q⟩
theorem cr_minT (hc : X.calm = true) (hu : X.A.units + 100 < cLine) : CallR X (.builtin "min") (rMinT X.K) := by
  intro pins s σ H xs us Q I rx ⟨a, i, r, ex, sq, q⟩
  subst ex
  obtain ⟨its, rv, pl, _⟩ := I.tuple sq
  rw [Vals.ref1 rx]
  have rd := reads_ints (h := s.heap) rv.ints
  refine PySem.W.min_tuple_data (x := .int i) (xs := r.map .int) (I.ok.hd hc) (show s.heap.IsTuple a its.toArray from pl) rd (ints_alike (i :: r)) (by rw [show (PyData.int i :: r.map PyData.int) = (i :: r).map PyData.int from rfl, ints_depth]; omega) fun j v h1 tk bs e rr kp => ?_
  rw [PySem.W.minD_ints, minI_fold] at rr
  cases rr
  exact ⟨.int _, H, I.kept kp, ⟨_, rfl⟩, q⟩
theorem biMax_ok (hc : X.calm = true) (hu : X.A.units + 100 < cLine) : CallR X (.builtin "max") (rBi X.K .max) := by
  refine callr_by ((cr_max hc).or ((call_max2 hc).or (cr_maxT hc hu))) ?_
  rintro xs H Q kf ⟨P, ds, v, hx, hp, hb, hq, _⟩
  rcases ds with _ | ⟨d, _ | ⟨e, _ | ⟨e2, r⟩⟩⟩
  · cases hb
  · obtain ⟨u, rfl, hv⟩ := hx.one
    cases d <;> simp only [biD] at hb <;> try (cases hb; done)
    · obtain ⟨a, zs, rfl, h1, r1⟩ := hv.lst
      split at hb
      · rename_i i r e
        cases hb
        rw [r1.intsV e] at h1
        refine .inl ⟨a, i :: r, rfl, .inl h1, by simp, fun m hm hy _ => ?_⟩
        rw [maxI_ok (by simp) hm hy]
        exact hq rfl _ _ (Al.refl H) (.int _)
      · cases hb
    · obtain ⟨a, zs, rfl, h1, _, r1⟩ := hv.tup
      split at hb
      · rename_i i r e
        cases hb
        rw [r1.intsV e] at h1
        exact .inr (.inr ⟨a, i, r, rfl, h1, fun _ => hq rfl _ _ (Al.refl H) (.int _)⟩)
      · cases hb
  · obtain ⟨u, w, rfl, hv, hw⟩ := hx.two
    cases d <;> cases e <;> simp only [biD, Except.ok.injEq] at hb <;> try (cases hb; done)
    subst hb
    exact .inr (.inl ⟨_, _, by rw [hv.int, hw.int], fun _ => hq rfl _ _ (Al.refl H) (.int _)⟩)
  · cases d <;> cases e <;> simp [biD] at hb
theorem biMin_ok (hc : X.calm = true) (hu : X.A.units + 100 < cLine) : CallR X (.builtin "min") (rBi X.K .min) := by
  refine callr_by ((cr_min hc).or ((call_min2 hc).or (cr_minT hc hu))) ?_
  rintro xs H Q kf ⟨P, ds, v, hx, hp, hb, hq, _⟩
  rcases ds with _ | ⟨d, _ | ⟨e, _ | ⟨e2, r⟩⟩⟩
  · cases hb
  · obtain ⟨u, rfl, hv⟩ := hx.one
    cases d <;> simp only [biD] at hb <;> try (cases hb; done)
    · obtain ⟨a, zs, rfl, h1, r1⟩ := hv.lst
      split at hb
      · rename_i i r e
        cases hb
        rw [r1.intsV e] at h1
        refine .inl ⟨a, i :: r, rfl, .inl h1, by simp, fun m hm hy _ => ?_⟩
        rw [minI_ok (by simp) hm hy]
        exact hq rfl _ _ (Al.refl H) (.int _)
      · cases hb
    · obtain ⟨a, zs, rfl, h1, _, r1⟩ := hv.tup
      split at hb
      · rename_i i r e
        cases hb
        rw [r1.intsV e] at h1
        exact .inr (.inr ⟨a, i, r, rfl, h1, fun _ => hq rfl _ _ (Al.refl H) (.int _)⟩)
      · cases hb
  · obtain ⟨u, w, rfl, hv, hw⟩ := hx.two
    cases d <;> cases e <;> simp only [biD, Except.ok.injEq] at hb <;> try (cases hb; done)
    subst hb
    exact .inr (.inl ⟨_, _, by rw [hv.int, hw.int], fun _ => hq rfl _ _ (Al.refl H) (.int _)⟩)
  · cases d <;> cases e <;> simp [biD] at hb
theorem np_of {P : Addr → Prop} {H : Hp} {p : Addr} (hp : ∀ a, P a → ∃ o, H a = some o) (h : H p = none) : ¬ P p := fun q => by
  obtain ⟨o, e⟩ := hp p q
  rw [h] at e
  cases e
theorem biSorted_ok : CallR X (.builtin "sorted") (rBi X.K .sorted) := by
  refine callr_by cr_sortedI ?_
  rintro xs H Q kf ⟨P, ds, v, hx, hp, hb, _, hq⟩
  rcases ds with _ | ⟨d, _ | ⟨e, r⟩⟩
  · cases hb
  · obtain ⟨u, rfl, hu⟩ := hx.one
    cases d <;> simp only [biD] at hb <;> try (cases hb; done)
    obtain ⟨a, zs, rfl, h1, r1⟩ := hu.lst
    split at hb
    · rename_i ns e
      cases hb
      rw [r1.intsV e] at h1
      refine ⟨a, ns, rfl, .inl h1, fun ns' p h2 h3 hn kf2 => ?_⟩
      rw [sortI_eq h2 h3] at kf2 ⊢
      exact hq _ _ p rfl hn kf2 (repL_ints _)
    · cases hb
  · cases d <;> simp [biD] at hb
theorem biTuple_ok : CallR X (.type "tuple") (rBi X.K .tuple) := by
  refine callr_by call_tuple_of ?_
  rintro xs H Q kf ⟨P, ds, v, hx, hp, hb, hq, _⟩
  rcases ds with _ | ⟨d, _ | ⟨e, r⟩⟩
  · cases hb
  · obtain ⟨u, rfl, hu⟩ := hx.one
    cases d <;> simp only [biD, Except.ok.injEq] at hb <;> try (cases hb; done)
    · subst hb
      obtain ⟨a, zs, rfl, h1, r1⟩ := hu.lst
      exact ⟨a, zs, rfl, .inl ⟨.inl h1, fun l hn _ => hq rfl _ _ (Al.upd hn) (.tup (.of upd_same) (np_of hp hn) (r1.al (Al.upd hn)))⟩⟩
    · subst hb
      obtain ⟨a, zs, rfl, h1, n1, r1⟩ := hu.tup
      exact ⟨a, zs, rfl, .inr ⟨h1, fun _ => hq rfl _ _ (Al.refl H) (.tup h1 n1 r1)⟩⟩
  · cases d <;> simp [biD] at hb
theorem biList_ok : CallR X (.type "list") (rBi X.K .list) := by
  refine callr_by call_list_of ?_
  rintro xs H Q kf ⟨P, ds, v, hx, hp, hb, _, hq⟩
  rcases ds with _ | ⟨d, _ | ⟨e, r⟩⟩
  · cases hb
  · obtain ⟨u, rfl, hu⟩ := hx.one
    cases d <;> simp only [biD, Except.ok.injEq] at hb <;> try (cases hb; done)
    · subst hb
      obtain ⟨a, zs, rfl, h1, r1⟩ := hu.lst
      exact ⟨a, zs, rfl, .inl (.inl h1), fun l hn kf2 => hq _ _ l rfl hn kf2 r1⟩
    · subst hb
      obtain ⟨a, zs, rfl, h1, n1, r1⟩ := hu.tup
      exact ⟨a, zs, rfl, .inr h1, fun l hn kf2 => hq _ _ l rfl hn kf2 r1⟩
    · cases hu with
      | cl h => cases h
  · cases d <;> simp [biD] at hb

/-! ### items, slices -/
theorem rep_at {P : Addr → Prop} {K : PySem.W.Frag} {H : Hp} {xs : List V} {ds : List D} {i : Int} {d : D} (r : RepL K H P xs ds) (h : atI ds i = some d) : ∃ v, L2.atI xs i = some v ∧ Rep K H P v d := by
  unfold atI at h
  cases e : ixN ds.length i with
  | none => rw [e] at h; cases h
  | some j =>
    rw [e] at h
    obtain ⟨v, h1, h2⟩ := r.get h
    refine ⟨v, ?_, h2⟩
    unfold L2.atI
    have e2 : L2.ixN xs.length i = some j := by rw [r.length]; exact e
    rw [e2]
    exact h1
theorem ixr_by {r r' : R2} (h : IxR X r) (w : ∀ x y H Q, KF X.K H → r' x y H Q → r x y H fun v H' => KF X.K H' → Q v H') : IxR X r' :=
  fun e1 e2 pins s σ H x y v u Q I rx ry hq hs => thn (h e1 e2 pins s σ H x y v u _ I rx ry (w x y H Q (kf_of I) hq) hs) fun _ _ ⟨v, H', I', r, q⟩ => ⟨v, H', I', r, q (kf_of I')⟩
def rSub (K : PySem.W.Frag) : R2 := fun x y H Q => ∃ P d e v, RepC K H P x d ∧ RepC K H P y e ∧ subD d e = .ok v ∧ (∀ u, Rep K H P u v → Q u H)
theorem sub_ok : IxR X (rSub X.K) := by
  refine ixr_by (ix_list.or ix_tup) ?_
  rintro x y H Q kf ⟨P, d, e, v, hx, hy, hb, hq⟩
  cases d <;> cases e <;> simp only [subD] at hb <;> try (cases hb; done)
  · rename_i ds i
    split at hb
    · rename_i d' e
      cases hb
      obtain ⟨a, zs, rfl, h1, r1⟩ := hx.lst
      obtain ⟨w, h2, h3⟩ := rep_at r1 e
      exact .inl ⟨a, zs, i, w, rfl, hy.int, .inl h1, h2, fun _ => hq _ h3⟩
    · cases hb
  · rename_i ds i
    split at hb
    · rename_i d' e
      cases hb
      obtain ⟨a, zs, rfl, h1, _, r1⟩ := hx.tup
      obtain ⟨w, h2, h3⟩ := rep_at r1 e
      exact .inr ⟨a, zs, i, w, rfl, hy.int, h1, h2, fun _ => hq _ h3⟩
    · cases hb
  all_goals (cases hx with | cl h => cases h)
theorem sIx_eq (n d : Nat) (o : Option Int) : sIx n d o = HT.sIx n d o := by
  cases o <;> rfl
theorem RepL.cut {P : Addr → Prop} {K : PySem.W.Frag} {H : Hp} {xs : List V} {ds : List D} (r : RepL K H P xs ds) (lo hi : Option Int) : RepL K H P (cutV xs lo hi) (cut ds lo hi) := by
  unfold cutV JK.cut
  rw [r.length, sIx_eq, sIx_eq]
  exact (r.drop _).take _
def rSlc (K : PySem.W.Frag) : V → Option Int → Option Int → Hp → VK → Prop := fun x lo hi H Q => ∃ P d v, RepC K H P x d ∧ (∀ a, P a → ∃ o, H a = some o) ∧ slcD d lo hi = .ok v ∧ Res K H P v Q
theorem slc_ok : SlR X (rSlc X.K) := by
  have h := (sl_list (X := X)).or sl_tupA
  intro pins s σ H x v vl vu lo hi sl Q I rx hs pl pu ⟨P, d, w, hx, hp, hb, hq1, hq2⟩
  have go : ∀ Q', ((rSlL X.K x lo hi H Q') ∨ (rSlA X.K x lo hi H Q')) → (∀ u H', Q' u H' → KF X.K H' → Q u H') →
      ∃ T id, typeLookup (.type T) "__getitem__" = pure (some (.builtin id)) ∧ s.TypeIs v T ∧ wpAny (model X.prog X.w) X.A (getItem v (.ref sl)) (EP X pins σ Q) X.xe s := fun Q' q w => by
    obtain ⟨T, id, h1, h2, h3⟩ := h pins s σ H x v vl vu lo hi sl Q' I rx hs pl pu q
    exact ⟨T, id, h1, h2, thn h3 fun _ _ ⟨v, H', I', r, q⟩ => ⟨v, H', I', r, w _ _ q (kf_of I')⟩⟩
  cases d <;> simp only [slcD, Except.ok.injEq] at hb <;> try (cases hb; done)
  · subst hb
    obtain ⟨a, zs, rfl, h1, r1⟩ := hx.lst
    exact go (fun u H' => KF X.K H' → Q u H') (.inl ⟨a, zs, rfl, .inl h1, fun p hn kf2 => hq2 _ _ p rfl hn kf2 (r1.cut lo hi)⟩) fun _ _ q k => q k
  · subst hb
    obtain ⟨a, zs, rfl, h1, n1, r1⟩ := hx.tup
    refine go (fun u H' => KF X.K H' → Q u H') (.inr ⟨a, zs, rfl, h1, fun c _ => ?_, fun c p hn _ => ?_⟩) fun _ _ q k => q k
    · refine hq1 rfl _ _ (Al.refl H) ?_
      have r2 := r1.cut lo hi
      have e : cutV zs lo hi = zs := by
        unfold cutV
        rw [c.1, c.2]
        simp
      rw [e] at r2
      exact .tup h1 n1 r2
    · exact hq1 rfl _ _ (Al.upd hn) (.tup (.of upd_same) (np_of hp hn) ((r1.cut lo hi).al (Al.upd hn)))
end
end JK

end
section
set_option Elab.async false
set_option linter.all false
set_option autoImplicit false
set_option maxRecDepth 100000
set_option maxHeartbeats 4000000
/-! JkSet: set(list of ints), its length, sorted. -/
namespace JK
open PySem PySem.Spec L2 PyProof.Rows
/-- the object that set() lays -/
abbrev set0 (w : World) : Obj := { cls := .type "set", dict := none, data := .set #[] 0 (.fresh 0 0 (!w.params.followText "set-order")) }
/-- what is left behind the filling -/
abbrev SetMade (w : World) (s : Shared) (ns : List Int) (h' : Heap) (c : Nat) : Prop :=
  SetR w h' s.heap.objs.size (fun j => decide (j ∈ ns)) c ∧ c ≤ ns.length ∧ (∀ b o, s.heap.get? b = some o → h'.get? b = some o)
section
variable {P : Program} {w : World} {A : Around} {E : Value → Shared → Prop} {s : Shared}
set_option maxHeartbeats 8000000 in
theorem set_of_list {l : Addr} {items : Array Value} (ns : List Int) {Q : Value → Shared → Prop} (hh : A.handled = none) (hl : s.heap.IsList l items) (hit : IntsAre items.toList ns) (hb : ns.length + 1 < scanBound)
    (h : ∀ (h' : Heap) (tk c : Nat), SetMade w s ns h' c → Q (.ref s.heap.objs.size) { s with heap := h', toks := tk }) : wpAny (model P w) A (call (.type "set") [.ref l]) Q E s := by
  have isz : items.size = ns.length := by have q := IntsAre.length hit; simpa using q
  obtain ⟨c0, tl0, hmro⟩ := F.called_set.mro; have hmade := F.called_set.made; have hsub := F.called_set.sub
  refine wpAny_call (codeAny_of_tree ?_); show wpAny _ _ (callAny (.type "set") _) _ _ _
  refine wpAny_pure ⟨Code.quiet_builtin _ (by decide +kernel), codeAny_builtin F.entry_type_call ?_⟩; rw [Around.under_plain (weight_type_call_type "set" [.ref l] []) rfl]
  have g1 := F.called_set.notType; have g2 := F.called_set.canCreate; have g3 := F.typeCall_set_1 (.ref l)
  repeat (any_goals (first | assumption | wp_step))
  refine codeAny_mono (code_set_led1 (.ref l) (E := E) (Q₁ := fun obj s₁ => obj = .ref s.heap.objs.size ∧ s₁ = { s with heap := s.heap.push (set0 w) }) ⟨rfl, rfl⟩) fun r s₁ hr => ?_
  cases r with
  | error e => exact hr
  | ok fl =>
    cases fl with
    | ret obj =>
      obtain ⟨rfl, rfl⟩ := hr
      have hS : (s.heap.push (set0 w)).get? s.heap.objs.size = some (set0 w) := Heap.get?_push_size _ rfl
      have hT : Shared.TypeIs { s with heap := s.heap.push (set0 w) } (.ref s.heap.objs.size) "set" := ⟨_, hS, rfl⟩
      have hli := F.called_set.init.lookup; have hbi := F.called_set.init.bind (.ref s.heap.objs.size)
      repeat (any_goals (first | assumption | wp_step))
      refine codeAny_mono (codeAny_call_builtin (R := wants (fun r s₂ => r = .none ∧ ∃ h' tk c, s₂ = { s with heap := h', toks := tk } ∧ SetMade w s ns h' c) E) F.called_set.init.plain F.entry_set_init (check_set_init_1 hT ?_)) fun r₂ s₂ hr₂ => ?_
      · obtain ⟨⟨oc, od, odt, osl⟩, hol, hcl, nl, hdl⟩ := hl
        simp only at hcl hdl; subst hcl; subst hdl
        have hol' : (s.heap.push (set0 w)).get? l = some { cls := .type "list", dict := od, data := .seq items nl, slots := osl } := Heap.get?_push_of_some _ hol
        have w1 := F.sub_list_set; have w2 := F.sub_list_frozenset; have w3 : (Value.type "list" == Value.type "dict") = false := by decide
        have hl1 : (s.heap.push (set0 w)).IsList l items := ⟨_, hol', rfl, nl, rfl⟩
        unfold Builtin.«set.__init__» noKeywords Builtin.Frozenset.updateFrom; generalize hPI : pyIter = PI; wp_walk; subst hPI
        refine wpAny_pyIter_list hl1 ?_; refine wpAny_bind (wpAny_runValue ?_)
        have hlS : l < s.heap.objs.size := Heap.lt_size hol
        have hh3 : A.in1.in1.in1.handled = none := by simp [hh]
        have esz : (s.heap.push (set0 w)).objs.size = s.heap.objs.size + 1 := Heap.size_push ..
        have hneI : l ≠ (s.heap.push (set0 w)).objs.size := fun q => absurd (Nat.lt_succ_of_lt hlS) (by rw [q, esz]; exact Nat.lt_irrefl _)
        have hSf : s.heap.objs.size ∉ [(s.heap.push (set0 w)).objs.size, l] := by
          intro q; rcases List.mem_cons.mp q with q | q
          · exact absurd (q.trans esz) (Nat.ne_of_lt (Nat.lt_succ_self _))
          · exact absurd hlS (by rw [List.mem_singleton.mp q]; exact Nat.lt_irrefl _)
        have hval : ∀ (i : Nat) (v : Value), items[i]? = some v → ∃ k t, ns[i]? = some k ∧ v = .int k t := fun i v hv => by
          have hi : i < ns.length := by obtain ⟨z, _⟩ := Array.getElem?_eq_some_iff.mp hv; omega
          obtain ⟨t, e⟩ := IntsAre.int_at hit i v (by simpa using hv)
          exact ⟨ns[i], t, by simp [hi], by rw [e]; simp [List.getD, hi]⟩
        refine set_update_ints ((Walks.list hh3 _ l hneI items).toS) s.heap.objs.size hSf ns isz hb hval (items.size - 0) 0 _ (by omega) (Nat.zero_le _) ⟨⟨_, Heap.get?_push_size _ rfl, rfl, rfl⟩, (hl1.push _)⟩ ?hS0 ?hR
        case hS0 =>
          have hget : ((s.heap.push (set0 w)).push { cls := .type "list_iterator", data := .fields #[.ref l, .int 0 0] }).get? s.heap.objs.size = some (set0 w) := Heap.get?_push_of_some _ hS
          exact ⟨0, Nat.le_refl 0, setR_new_at hget⟩
        case hR =>
          intro s' c' hm hc' hS'; obtain ⟨h', gg, dd, tk', oo⟩ := s'
          have e1 : gg = s.gens := hm.gens
          have e2 : dd = s.drawn := hm.drawn
          have e3 : oo = s.os := hm.os
          subst e1 e2 e3; show wpAny _ _ _ _ _ _
          refine wpAny_pure ?_; show wpAny _ _ (ret Value.none) _ _ _
          refine wpAny_pure ⟨rfl, h', tk', c', rfl, hS', by omega, fun b o e => hm.heap b o ?_ (Heap.get?_push_of_some _ (Heap.get?_push_of_some _ e))⟩
          have hb0 : b < s.heap.objs.size := Heap.lt_size e
          intro q; rcases List.mem_cons.mp q with q | q
          · exact absurd hb0 (by rw [q]; exact Nat.lt_irrefl _)
          · exact absurd (Nat.lt_succ_of_lt hb0) (by rw [List.mem_singleton.mp q, esz]; exact Nat.lt_irrefl _)
      · cases r₂ with
        | error e => exact hr₂
        | ok fl₂ =>
          cases fl₂ with
          | ret r =>
            obtain ⟨rfl, h', tk, c', rfl, hm⟩ := hr₂
            repeat (any_goals (first | assumption | wp_step))
            exact h _ _ _ hm
          | _ => exact hr₂.elim
    | _ => exact hr.elim
end
theorem setR_card {w : World} {h : Heap} {a : Addr} {ns : List Int} {c : Nat} (R : SetR w h a (fun j => decide (j ∈ ns)) c) : c = (nubI ns).length := by
  obtain ⟨o, es, ep, t, ho, hx, hd, g, nd, hm, hb, hf, hn, _⟩ := R
  rw [← hn]
  have p : (es.toList.map L2.keyOf).Perm (nubI ns) := (List.perm_ext_iff_of_nodup nd (nodup_nubI ns)).mpr fun k => by
    rw [mem_nubI, ← hm k]
    exact decide_eq_true_iff
  have e := p.length_eq
  rw [List.length_map, Array.length_toList] at e
  exact e
section
variable {X : Cx}
/-- set(list of ints) as a new set -/
theorem call_setL (hc : X.calm = true) : CallR X (.type "set") fun xs H Q => ∃ (l : Addr) (ns : List Int), xs = [.ref l] ∧ Rd H l (.lst (ns.map V.int)) ∧ ns.length < 1000 ∧ ∀ p, H p = none → Q (.ref p) (upd H p (SetO X.w p (fun j => decide (j ∈ ns)) (nubI ns).length)) := by
  intro pins s σ H xs us Q I r ⟨l, ns, e, h1, h2, q⟩
  subst e
  obtain ⟨z, its, n, rv, hl, g⟩ := rd_at I h1
  rw [Vals.ref1 r]
  refine set_of_list (items := its.toArray) ns (I.ok.hd hc) ⟨_, g, rfl, n, rfl⟩ rv.ints (by unfold scanBound; omega) fun h' tk c ⟨hS, hc', hk⟩ => ?_
  have e := setR_card hS
  subst e
  exact ⟨V.ref _, _, I.laid (t' := tk) hk (Nat.le_refl _) (setO_new hS), rfl, q _ I.fresh⟩
theorem call_setT (hc : X.calm = true) : CallR X (.type "set") fun xs H Q => ∃ (l : Addr) (ns : List Int), xs = [.ref l] ∧ SqT X.K H l (ns.map V.int) ∧ ns.length < 1000 ∧ ∀ p, H p = none → Q (.ref p) (upd H p (SetO X.w p (fun j => decide (j ∈ ns)) (nubI ns).length)) := by
  intro pins s σ H xs us Q I r ⟨l, ns, e, h1, h2, q⟩
  subst e
  obtain ⟨its, rv, p, z⟩ := I.tuple h1
  rw [Vals.ref1 r]
  refine call_set_tupI (items := its.toArray) ns (I.ok.hd hc) (show s.heap.IsTuple l its.toArray from p) rv.ints (by unfold scanBound; omega) fun h' tk c hS hc' hk => ?_
  have e := setR_card hS
  subst e
  exact ⟨V.ref _, _, I.laid (t' := tk) hk (Nat.le_refl _) (setO_new hS), rfl, q _ I.fresh⟩
/-- len(a set) -/
theorem call_lenS : CallR X (.builtin "len") fun xs H Q => ∃ a S n, xs = [.ref a] ∧ H a = some (SetO X.w a S n) ∧ n < 1000 ∧ Q (.int n) H := by
  intro pins s σ H xs us Q I r ⟨a, S, n, e, h1, h2, q⟩
  subst e
  rw [Vals.ref1 r]
  obtain ⟨o, es, ep, t, ho, hx, hd, _, _, _, _, hf, hn, _⟩ := setO_get I h1
  exact call_len_set ho hx hd hf (by rw [hn]; omega) ⟨.int n, H, I.tok _, ⟨_, by rw [hn]⟩, q⟩
def rSet (K : PySem.W.Frag) (w : World) : List V → Hp → VK → Prop := fun xs H Q => ∃ P d ns, ∃ u, xs = [u] ∧ RepC K H P u d ∧ (∃ ds, (d = .list ds ∨ d = .tuple ds) ∧ intsD ds = some ns) ∧ ns.length < 1000 ∧ ∀ p, H p = none → Q (.ref p) (upd H p (SetO w p (fun j => decide (j ∈ ns)) (nubI ns).length))
theorem set_ok (hc : X.calm = true) : CallR X (.type "set") (rSet X.K X.w) := by
  refine callr_by ((call_setL hc).or (call_setT hc)) ?_
  rintro xs H Q kf ⟨P, d, ns, u, rfl, hu, ⟨ds, hd, hi⟩, hl, hq⟩
  rcases hd with rfl | rfl
  · obtain ⟨a, zs, rfl, h1, r1⟩ := hu.lst
    rw [r1.intsV hi] at h1
    exact .inl ⟨a, ns, rfl, h1, hl, fun p hn _ => hq p hn⟩
  · obtain ⟨a, zs, rfl, h1, _, r1⟩ := hu.tup
    rw [r1.intsV hi] at h1
    exact .inr ⟨a, ns, rfl, h1, hl, fun p hn _ => hq p hn⟩
end
end JK

end
section
set_option Elab.async false
set_option linter.all false
set_option autoImplicit false
set_option maxRecDepth 100000
set_option maxHeartbeats 1000000
/-! JkIt: what a for walks. -/
namespace JK
open PySem PySem.Spec L2
/-- J walks the items of the arguments us, which are ds, at every heap where they are so still -/
def ItOk (K : PySem.W.Frag) (J : It) (us : List V) (ds items : List D) : Prop :=
  ∀ (H : Hp) (P : Addr → Prop), RepCs K H P us ds → (∀ a, P a → ∃ o, H a = some o) →
    (∀ j d, items[j]? = some d → J.go j H ∧ ∀ x H', J.yld j H x H' → Al H H' ∧ Rep K H' P x d) ∧ (∀ j, items.length ≤ j → J.stop j H)
def nonStar : Expr → Bool
  | .Starred .. => false
  | _ => true
theorem star_cons {p : Expr} {ps : List Expr} {env : Env} (h : nonStar p = true) : starEach (p :: ps) env = (false, eval p env) :: starEach ps env := by
  cases p <;> first | rfl | cases h
theorem star_any : ∀ {ps : List Expr} {env : Env} {pos : Pos}, ps.all nonStar = true → (backTo pos (starEach ps env)).any (·.1) = false
  | [], _, _, _ => rfl
  | p :: ps, env, pos, h => by
    rw [List.all_cons] at h
    obtain ⟨h1, h2⟩ := dec2 h
    rw [star_cons h1]
    show (false || (backTo pos (starEach ps env)).any (·.1)) = false
    rw [star_any h2]
    rfl
theorem evAs_nil (C : Cfg) (ρ : Ev) : evAs C [] ρ = .ok [] ρ := by rw [evAs]
theorem evAs_cons (C : Cfg) (e : E) (es : List E) (ρ : Ev) : evAs C (e :: es) ρ = (evA C e ρ).bd fun d ρ1 => (evAs C es ρ1).bd fun ds ρ2 => .ok (d :: ds) ρ2 := by rw [evAs]
theorem evEs_nil (C : Cfg) (ρ : Ev) : evEs C [] ρ = .ok [] ρ := by rw [evEs]
theorem evEs_cons (C : Cfg) (e : E) (es : List E) (ρ : Ev) : evEs C (e :: es) ρ = (evE C e ρ).bd fun d ρ1 => (evEs C es ρ1).bd fun ds ρ2 => .ok (d :: ds) ρ2 := by rw [evEs]
theorem evAs_one (C : Cfg) (e : E) (ρ : Ev) : evAs C [e] ρ = (evA C e ρ).bd fun d ρ1 => .ok [d] ρ1 := by
  rw [evAs_cons]
  congr 1
  funext d ρ1
  rw [evAs_nil]
  rfl
theorem bd_ok {α β : Type} {r : R α} {f : α → Ev → R β} {b : β} {ρ : Ev} (h : r.bd f = .ok b ρ) : ∃ a ρ1, r = .ok a ρ1 ∧ f a ρ1 = .ok b ρ := by
  cases r with
  | ok a ρ1 => exact ⟨a, ρ1, rfl, h⟩
  | ex c d ρ1 => cases h
  | er m => cases h
theorem evAs_len {C : Cfg} : ∀ {es : List E} {ρ ρ' : Ev} {xs : List Arg}, evAs C es ρ = .ok xs ρ' → xs.length = es.length
  | [], ρ, ρ', xs, h => by
    rw [evAs_nil] at h
    cases h
    rfl
  | e :: es, ρ, ρ', xs, h => by
    rw [evAs_cons] at h
    obtain ⟨a, ρ1, h1, h2⟩ := bd_ok h
    obtain ⟨as, ρ2, h3, h4⟩ := bd_ok h2
    cases h4
    rw [List.length_cons, List.length_cons, evAs_len h3]
theorem rsAll_len {ρ : Ev} : ∀ {xs : List Arg} {ds : List D}, rsAll ρ xs = some ds → ds.length = xs.length
  | [], ds, h => by cases h; rfl
  | x :: xs, ds, h => by
    simp only [rsAll, Option.bind_eq_some_iff, Option.map_eq_some_iff] at h
    obtain ⟨d, _, ds', h2, rfl⟩ := h
    rw [List.length_cons, List.length_cons, rsAll_len h2]
section
variable {X : Cx} {C : Cfg} {W : WX}
def tI (X : Cx) (C : Cfg) (W : WX) (k : Ik) (es : List E) : TI := fun σ H R => ∃ P0 α ρ, FI X.K P0 α ρ σ H ∧ Run W X.K X.mg P0 σ α H (evAs C es ρ) fun xs ρ' α' H' =>
  ∃ ds items, rsAll ρ' xs = some ds ∧ itemsD k ds = .ok items ∧ ∀ us J, ArgRs X.K P0 α' σ H' xs us → ItOk X.K J us ds items → R J H'
theorem pi_by {tg p : Expr} {t t' : TI} (h : PI X tg p t) (w : ∀ σ H R, KF X.K H → t' σ H R → t σ H R) : PI X tg p t' :=
  ⟨fun pins s σ H R I hq => h.run pins s σ H R I (w σ H R (kf_of I) hq)⟩
/-- a list or a tuple -/
def iSeq (K : PySem.W.Frag) (te : TE) : TI := fun σ H R => te σ H fun x H1 => ∃ a, x = .ref a ∧ (((∃ xs, SqL K H1 a xs) ∧ R (Itl K a) H1) ∨ ((∃ xs, SqT K H1 a xs) ∧ R (Itt K a) H1))
theorem pi_seq {tg p : Expr} {te : TE} (he : PE X p te) : PI X tg p (iSeq X.K te) := by
  refine ⟨fun pins s σ H R I h => thn (he.run pins s σ H _ I h) fun v s1 ⟨x, H1, I1, r1, a, ex, q⟩ => ?_⟩
  subst ex
  cases r1
  have one : ∀ b ∈ [s1.heap.objs.size], FpOk X pins H1 b := fun b hb => by
    rw [List.mem_singleton.mp hb]
    exact I1.fpOk (Nat.le_refl _) (I1.hok.fresh (Nat.le_refl _))
  have grow : ∀ {o : Obj}, Inv X pins σ H1 { s1 with heap := s1.heap.push o, toks := s1.toks } := fun {o} => I1.kept fun b ob e => Heap.get?_push_of_some _ e
  rcases q with ⟨⟨xs, hq⟩, q⟩ | ⟨⟨xs, hq⟩, q⟩
  · obtain ⟨its, _, pl, _⟩ := I1.list hq
    exact wpAny_pyIter_list pl.isList ⟨s1.heap.objs.size, [s1.heap.objs.size], _, _, H1, rfl, grow, turn_list a _, ⟨_, Heap.get?_push_size _ rfl, rfl, rfl⟩, one, q⟩
  · obtain ⟨its, _, pl, _⟩ := I1.tuple hq
    exact wpAny_pyIter_tuple (show s1.heap.IsTuple a its.toArray from pl) ⟨s1.heap.objs.size, [s1.heap.objs.size], _, _, H1, rfl, grow, turn_tuple a _, ⟨_, Heap.get?_push_size _ rfl, rfl, rfl⟩, one, q⟩
/-- the walk over u, which is a list at the walk's start -/
theorem it_list {K : PySem.W.Frag} {a : Addr} : ∀ (H : Hp) (P : Addr → Prop) (ds : List D) (xs : List V), Rd H a (.lst xs) → RepL K H P xs ds →
    (∀ j d, ds[j]? = some d → (Itl K a).go j H ∧ ∀ x H', (Itl K a).yld j H x H' → Al H H' ∧ Rep K H' P x d) ∧ (∀ j, ds.length ≤ j → (Itl K a).stop j H) := fun H P ds xs h r => by
  refine ⟨fun j d e => ?_, fun j hj => ⟨xs, .inl h, by rw [r.length]; exact hj⟩⟩
  obtain ⟨v, e1, e2⟩ := r.get e
  refine ⟨⟨xs, v, .inl h, e1⟩, fun x H' ⟨eH, y⟩ => ?_⟩
  subst eH
  have q := y xs (.inl h)
  rw [e1] at q
  cases q
  exact ⟨Al.refl _, e2⟩
theorem it_tup {K : PySem.W.Frag} {a : Addr} : ∀ (H : Hp) (P : Addr → Prop) (ds : List D) (xs : List V), SqT K H a xs → RepL K H P xs ds →
    (∀ j d, ds[j]? = some d → (Itt K a).go j H ∧ ∀ x H', (Itt K a).yld j H x H' → Al H H' ∧ Rep K H' P x d) ∧ (∀ j, ds.length ≤ j → (Itt K a).stop j H) := fun H P ds xs h r => by
  refine ⟨fun j d e => ?_, fun j hj => ⟨xs, h, by rw [r.length]; exact hj⟩⟩
  obtain ⟨v, e1, e2⟩ := r.get e
  refine ⟨⟨xs, v, h, e1⟩, fun x H' ⟨eH, y⟩ => ?_⟩
  subst eH
  have q := y xs h
  rw [e1] at q
  cases q
  exact ⟨Al.refl _, e2⟩
theorem pi_seqI {tg p : Expr} {e : E} (he : PE X p (tA X C W e)) : PI X tg p (tI X C W .seq [e]) := by
  refine pi_by (pi_seq he) ?_
  rintro σ H R kf ⟨P0, α, ρ, f, r⟩
  rw [evAs_one] at r
  refine ⟨P0, α, ρ, f, (Run.bd r).mono fun x ρ1 α1 H1 f1 _ r1 u hu => ?_⟩
  obtain ⟨ds, items, h1, h2, h3⟩ := r1.here f1
  have hc := (ArgRs.cons hu .nil).now f1 h1
  cases ds with
  | nil => cases hc
  | cons d r =>
    cases hc with
    | cons hd ht =>
      cases ht
      cases d <;> simp only [itemsD, Except.ok.injEq] at h2 <;> try (cases h2; done)
      · rename_i xs
        subst h2
        obtain ⟨a, vs, rfl, h4, r4⟩ := hd.lst
        refine ⟨a, rfl, .inl ⟨⟨vs, .inl h4⟩, h3 _ _ (.cons hu .nil) fun H2 P q hp => ?_⟩⟩
        obtain ⟨u2, e1, h5⟩ := q.one
        cases e1
        obtain ⟨a2, vs2, e2, h6, r6⟩ := h5.lst
        cases e2
        exact it_list H2 P _ _ h6 r6
      · rename_i xs
        subst h2
        obtain ⟨a, vs, rfl, h4, _, r4⟩ := hd.tup
        refine ⟨a, rfl, .inr ⟨⟨vs, h4⟩, h3 _ _ (.cons hu .nil) fun H2 P q hp => ?_⟩⟩
        obtain ⟨u2, e1, h5⟩ := q.one
        cases e1
        obtain ⟨a2, vs2, e2, h6, _, r6⟩ := h5.tup
        cases e2
        exact it_tup H2 P _ _ h6 r6
theorem rngOk_b {a b : Int} (h : rngOk a b = true) : -1000000 ≤ a ∧ a ≤ 1000000 ∧ -1000000 ≤ b ∧ b ≤ 1000000 := by
  obtain ⟨h1, h2⟩ := dec2 h
  obtain ⟨h3, h4⟩ := dec2 h1
  obtain ⟨h5, h6⟩ := dec2 h3
  exact ⟨of_decide_eq_true h5, of_decide_eq_true h6, of_decide_eq_true h4, of_decide_eq_true h2⟩
theorem it_rng {K : PySem.W.Frag} {a b : Int} {us : List V} {ds : List D} : ItOk K (Itr a (b - a).toNat) us ds (rngL a b) := fun H P _ _ => by
  have hl : (rngL a b).length = (b - a).toNat := by simp [rngL]
  refine ⟨fun j d e => ?_, fun j hj => by rw [hl] at hj; exact hj⟩
  have hj : j < (b - a).toNat := by
    rw [← hl]
    exact (List.getElem?_eq_some_iff.mp e).1
  refine ⟨hj, fun x H' ⟨eH, ex⟩ => ?_⟩
  subst eH ex
  simp only [rngL, List.getElem?_map, List.getElem?_range hj, Option.map_some, Option.some.injEq] at e
  subst e
  exact ⟨Al.refl _, .int _⟩
theorem pi_rngI1 {tg p1 : Expr} {p pos : Pos} {es : List E} (hg : Gl X "range") (hm : X.mg "range" = none) (na : nonStar p1 = true) (hl : es.length = 1) (he : PA X [p1] (tAs X C W es)) : PI X tg (.Call (.Name "range" p) [p1] [] pos) (tI X C W .rng es) := by
  refine pi_by (pi_range1 hg hm he (star_cons na)) ?_
  rintro σ H R kf ⟨P0, α, ρ, f, r⟩
  refine ⟨P0, α, ρ, f, r.monoE fun xs ρ1 α1 H1 eq f1 _ ⟨ds, items, h1, h2, h3⟩ us hu => ?_⟩
  have hc := hu.now f1 h1
  have hn : ds.length = es.length := (rsAll_len h1).trans (evAs_len eq)
  rcases ds with _ | ⟨d, _ | ⟨d2, _ | ⟨d3, r⟩⟩⟩
  · cases h2
  · obtain ⟨u, rfl, hd⟩ := hc.one
    cases d <;> simp only [itemsD] at h2 <;> try (cases h2; done)
    split at h2
    · rename_i b c
      cases h2
      obtain ⟨_, _, c1, c2⟩ := rngOk_b c
      refine ⟨b, by rw [hd.int], by omega, by omega, h3 _ _ hu ?_⟩
      have := it_rng (K := X.K) (a := 0) (b := b) (us := [u]) (ds := [PyData.int b])
      rw [Int.sub_zero] at this
      exact this
    · cases h2
  · rw [hl] at hn; cases hn
  · cases d <;> cases d2 <;> simp [itemsD] at h2
theorem pi_rngI2 {tg p1 p2 : Expr} {p pos : Pos} {es : List E} (hg : Gl X "range") (hm : X.mg "range" = none) (na : nonStar p1 = true) (nb : nonStar p2 = true) (hl : es.length = 2) (he : PA X [p1, p2] (tAs X C W es)) : PI X tg (.Call (.Name "range" p) [p1, p2] [] pos) (tI X C W .rng es) := by
  refine pi_by (pi_range2 hg hm he (by rw [star_cons na, star_cons nb]; rfl) (star_cons nb)) ?_
  rintro σ H R kf ⟨P0, α, ρ, f, r⟩
  refine ⟨P0, α, ρ, f, r.monoE fun xs ρ1 α1 H1 eq f1 _ ⟨ds, items, h1, h2, h3⟩ us hu => ?_⟩
  have hc := hu.now f1 h1
  have hn : ds.length = es.length := (rsAll_len h1).trans (evAs_len eq)
  rcases ds with _ | ⟨d, _ | ⟨d2, _ | ⟨d3, r⟩⟩⟩
  · cases h2
  · rw [hl] at hn; cases hn
  · obtain ⟨u, w, rfl, hd, hw⟩ := hc.two
    cases d <;> cases d2 <;> simp only [itemsD] at h2 <;> try (cases h2; done)
    split at h2
    · rename_i a b c
      cases h2
      obtain ⟨c1, c2, c3, c4⟩ := rngOk_b c
      exact ⟨a, b, by rw [hd.int, hw.int], ⟨by omega, by omega, by omega, by omega⟩, h3 _ _ hu it_rng⟩
    · cases h2
  · cases d <;> cases d2 <;> simp [itemsD] at h2
end
end JK

end
section
set_option Elab.async false
set_option linter.all false
set_option autoImplicit false
set_option maxRecDepth 100000
set_option maxHeartbeats 1000000
/-! JkChk: which text an own expression stands for. -/
namespace JK
open PySem PySem.Spec L2
/-- where one stands: names by slot, the scope, whose cells are made here -/
structure Sc where
  N : List Str
  sc : Scope
  fn : Str → Bool
  df : String → Bool
  xs : String → Bool
  rs : String → Bool
def visB (S : Sc) (i : Nat) (x : Str) : Bool :=
  decide (S.N[i]? = some x) && ((match S.sc.names.lookup x with | some .local => true | some .cell => true | some .free => true | _ => false) && (!(x == ("__debug__" : Str)) && !(x == ("__classdict__" : Str))))
def glB (S : Sc) (f : String) (x : Str) : Bool := decide (Str.ofString f = x) && (decide (S.sc.names.lookup x = some .globalImplicit) && !(x == ("__debug__" : Str)))
/-- a name that may be stored -/
def stoB (S : Sc) (i : Nat) (x : Str) : Bool :=
  decide (S.N[i]? = some x) && (decide (S.sc.names.lookup x = some .local) || (decide (S.sc.names.lookup x = some .cell) && S.fn x))
def biN : Bi → String
  | .len => "len" | .abs => "abs" | .int => "int" | .sum => "sum" | .any => "any" | .all => "all" | .max => "max" | .min => "min" | .sorted => "sorted" | .tuple => "tuple" | .list => "list"
  | .sset => "sorted" | .lset => "len" | .lrng => "list" | .trng => "tuple" | .str => "str"
def chkT (S : Sc) : Tg → Expr → Bool
  | .nm i, .Name x _ => stoB S i x
  | .tp is, .Tuple es _ _ => (is.length == es.length) && (is.zip es).all fun p => match p.2 with
    | .Name x _ => stoB S p.1 x
    | _ => false
  | _, _ => false
/-- the block of a comprehension -/
def blkS (S : Sc) (scope : Scope) : Sc := ⟨S.N, relS scope S.sc, fun x => scope.names.lookup x == some .cell, S.df, S.xs, S.rs⟩
def ownV (S : Sc) (vs : List Nat) : List (Str × Nat) := vs.map fun i => (S.N.getD i ⟨#[]⟩, i)
/-- the rest of an and, an or -/
def tailB (o : BoolOp) (pb : Expr) (r : List Expr) (pos : Pos) : Expr := match r with
  | [] => pb
  | _ => .BoolOp o (pb :: r) pos
/-- the expressions that a walk is made of -/
def itArgs (S : Sc) : Ik → Nat → Expr → Expr → Option (List Expr)
  | .seq, n, _, p => (match p with | .Set .. => none | _ => if n = 1 then some [p] else none)
  | .rng, n, _, p => (match p with | .Call (.Name x _) ps [] _ => if (glB S "range" x && (decide (n = ps.length) && (decide (n = 1) || decide (n = 2)))) = true then some ps else none | _ => none)
  | .zip, n, tg, p => (match tg, p with | .Tuple .., .Call (.Name x _) ps [] _ => if (glB S "zip" x && (decide (n = ps.length) && decide (n = 2))) = true then some ps else none | _, _ => none)
  | .enm, n, tg, p => (match tg, p with | .Tuple .., .Call (.Name x _) ps [] _ => if (glB S "enumerate" x && (decide (n = ps.length) && decide (n = 1))) = true then some ps else none | _, _ => none)
  | _, _, _, _ => none
/-- a receiver that is a plain name -/
def plainRcv : Expr → Bool
  | .Name _ _ => true
  | _ => false
mutual
def chkE (S : Sc) : E → Expr → Bool
  | .var i, p => (match p with | .Name x _ => visB S i x | _ => false)
  | .bor i, p => (match p with | .Name x _ => visB S i x | _ => false)
  | .non, p => (match p with | .Constant .none _ _ => true | _ => false)
  | .bl b, p => (match p with | .Constant (.bool c) _ _ => b == c | _ => false)
  | .int i, p => (match p with | .Constant (.int j) _ _ => decide (i = j) | _ => false)
  | .str s, p => (match p with | .Constant (.str t) _ _ => decide (s = t) | _ => false)
  | .glo x, p => (match p with | .Name y _ => glB S x y | _ => false)
  | .op o a b, p => (match p with | .BinOp pa q pb _ => decide (q = opP o) && (chkE S a pa && chkE S b pb) | _ => false)
  | .neg a, p => (match p with | .UnaryOp .USub pa _ => chkE S a pa | _ => false)
  | .inv a, p => (match p with | .UnaryOp .Invert pa _ => chkE S a pa | _ => false)
  | .not a, p => (match p with | .UnaryOp .Not pa _ => chkE S a pa | _ => false)
  | .and a b, p => (match p with | .BoolOp .And (pa :: pb :: r) pos => chkE S a pa && chkE S b (tailB .And pb r pos) | _ => false)
  | .or a b, p => (match p with | .BoolOp .Or (pa :: pb :: r) pos => chkE S a pa && chkE S b (tailB .Or pb r pos) | _ => false)
  | .cmp o a b, p => (match p with | .Compare pa [q] [pb] _ => (decide (q = cpP o) && !behindInMarks q pb) && (chkE S a pa && chkE S b pb) | _ => false)
  | .chain o o' a b c, p => (match p with | .Compare pa [q, q'] [pb, pc] _ => ((decide (q = cpP o) && decide (q' = cpP o')) && !lastMarks [q, q'] [pb, pc]) && (chkE S a pa && (chkE S b pb && chkE S c pc)) | _ => false)
  | .ite c a b, p => (match p with | .IfExp pc pa pb _ => chkE S c pc && (chkE S a pa && chkE S b pb) | _ => false)
  | .call f es, p => (match p with | .Call (.Name x _) ps [] _ => (glB S f x && S.df f) && chkEs S es ps | _ => false)
  | .bi b es, p => (match p with
    | .Call (.Name x _) ps [] _ => (match b with
      | .sset => (match ps with | [.Call (.Name y _) qs [] _] => (glB S "sorted" x && glB S "set" y) && (decide (es.length = 1) && chkEs S es qs) | _ => false)
      | .lset => (match ps with | [.Call (.Name y _) qs [] _] => (glB S "len" x && glB S "set" y) && (decide (es.length = 1) && chkEs S es qs) | _ => false)
      | .lrng => (match ps with | [.Call (.Name y _) qs [] _] => (glB S "list" x && glB S "range" y) && ((decide (es.length = 1) || decide (es.length = 2)) && chkEs S es qs) | _ => false)
      | .trng => (match ps with | [.Call (.Name y _) qs [] _] => (glB S "tuple" x && glB S "range" y) && ((decide (es.length = 1) || decide (es.length = 2)) && chkEs S es qs) | _ => false)
      | b => glB S (biN b) x && ((decide (b ≠ .str) && decide (es.length ≠ 0)) && chkEs S es ps))
    | _ => false)
  | .isi t a, p => (match p with | .Call (.Name x _) [pa, .Name y _] [] _ => ((glB S "isinstance" x && glB S t y) && isTys.contains t) && (nonStar pa && chkE S a pa) | _ => false)
  | .tup es, p => (match p with | .Tuple ps _ _ => decide (es.length ≤ 1000) && chkEs S es ps | _ => false)
  | .lst es, p => (match p with | .List ps _ => decide (es.length ≤ 1000) && chkEs S es ps | _ => false)
  | .dis _ _, _ => false
  | .sub a b, p => (match p with | .Subscript pa pb _ => (match pb with | .Slice .. => false | .Tuple .. => false | _ => true) && (chkE S a pa && chkE S b pb) | _ => false)
  | .slc a lo hi, p => (match p with | .Subscript pa (.Slice plo phi none _) _ => chkE S a pa && (chkO S lo plo && chkO S hi phi) | _ => false)
  | .rev a, p => (match p with | .Subscript pa (.Slice none none (some (.UnaryOp .USub (.Constant (.int 1) _ _) _)) _) _ => chkE S a pa | _ => false)
  | .pop i es, p => (match p with | .Call (.Attribute (.Name x _) m apos) ps [] cpos => visB S i x && (decide (m = ("pop" : Str)) && (decide (es.length ≤ 1) && ((apos.endLine == cpos.line) && chkEs S es ps))) | _ => false)
  | .me m a es, p => (match m, es, p with
    | .index, [e], .Call (.Attribute pa x apos) [q] [] cpos => (decide (x = ("index" : Str)) && (apos.endLine == cpos.line)) && (plainRcv pa && (nonStar q && (chkE S a pa && chkE S e q)))
    | .count, [e], .Call (.Attribute pa x apos) [q] [] cpos => (decide (x = ("count" : Str)) && (apos.endLine == cpos.line)) && (plainRcv pa && (nonStar q && (chkE S a pa && chkE S e q)))
    | _, _, _ => false)
  | .xf _ _, _ => false
  | .comp elt tg k es cs vs, p => (match p with
    | .ListComp pe [g] scope _ => (match g with
      | ⟨ptg, pit, pifs, 0⟩ => ((blkC S.N S.sc scope (ownV S vs) && (tgS tg).all vs.contains) && chkT (blkS S scope) tg ptg) && ((match itArgs S k es.length ptg pit with | some ps => chkEs S es ps | none => false) && (chkC (blkS S scope) cs pifs && chkE (blkS S scope) elt pe))
      | _ => false)
    | _ => false)
  | .comp2 elt tg k es cs tg1 k1 es1 cs1 vs vs1, p => (match p with
    | .ListComp pe [g, g1] scope _ => (match g, g1 with
      | ⟨ptg, pit, pifs, 0⟩, ⟨ptg1, pit1, pifs1, 0⟩ => (((blkC S.N S.sc scope (ownV S vs) && (tgS tg).all vs.contains) && chkT (blkS S scope) tg ptg) && ((chkT (blkS S scope) tg1 ptg1 && (tgS tg1).all vs1.contains) && vs1.all vs.contains)) &&
        (((match itArgs S k es.length ptg pit with | some ps => chkEs S es ps | none => false) && (match itArgs (blkS S scope) k1 es1.length ptg1 pit1 with | some ps => chkEs (blkS S scope) es1 ps | none => false)) && ((chkC (blkS S scope) cs pifs && chkC (blkS S scope) cs1 pifs1) && chkE (blkS S scope) elt pe))
      | _, _ => false)
    | _ => false)
  | .dcomp .., _ => false
def chkEs (S : Sc) : List E → List Expr → Bool
  | [], [] => true
  | e :: es, p :: ps => nonStar p && (chkE S e p && chkEs S es ps)
  | _, _ => false
def chkC (S : Sc) : List E → List Expr → Bool
  | [], [] => true
  | [e], [p] => chkE S e p
  | _, _ => false
def chkO (S : Sc) : List E → Option Expr → Bool
  | [], none => true
  | [e], some p => chkE S e p
  | _, _ => false
end
end JK

end
section
set_option Elab.async false
set_option linter.all false
set_option autoImplicit false
set_option maxRecDepth 100000
set_option maxHeartbeats 1000000
/-! JkCtx: the promise of a def, the table of defs, the context of a piece of code; names, constants, operators. -/
namespace JK
open PySem PySem.Spec L2
/-- the handed lists behind a call -/
def IoP (K : PySem.W.Frag) (P0 : Addr → Prop) (α0 : Am) (H : Hp) : List Nat → List D → Prop
  | [], [] => True
  | i :: is, d :: ds => (∃ a, α0 i = some a ∧ Hol K H (PU P0 α0) a d) ∧ IoP K P0 α0 H is ds
  | _, _ => False
/-- the result -/
def ResF (K : PySem.W.Frag) (P0 : Addr → Prop) (α0 : Am) (ff : Bool) (H H' : Hp) (u : V) (d : D) : Prop :=
  match ff with
  | true => ∃ a xs ds, u = .ref a ∧ d = .list ds ∧ H a = none ∧ H' a = some (.lst xs) ∧ RepL K H' (fun b => PU P0 α0 b ∨ b = a) xs ds
  | false => Rep K H' (PU P0 α0) u d
structure Kp (α : Am) (H H' : Hp) : Prop where
  keep : ∀ b o, H b = some o → (∀ i, α i ≠ some b) → H' b = some o
  there : ∀ b, (∃ o, H b = some o) → ∃ o, H' b = some o
/-- what a def promises: m is what it computes -/
def spM (K : PySem.W.Frag) (mg : Str → Option Value) (df : Df) (m : List D → Rc) : Sp := fun vs H Q E => vs.length = df.np ∧
  ∃ P0 α0 ds, FI K P0 α0 (slots0 df.io 0 ds) (vs.map some) H ∧ (∀ i a, α0 i = some a → i ∈ df.io) ∧ match m ds with
    | .ok d ios => ∀ u H', Kp α0 H H' → IoP K P0 α0 H' df.io ios → ResF K P0 α0 df.ff H H' u d → Q u H'
    | .ex c d ios => ∀ cls dd H', Kp α0 H H' → IoP K P0 α0 H' df.io ios → ExR mg c d cls dd H' → E cls dd H'
    | .er _ => False
def btNames : List String := ["len", "abs", "int", "sum", "any", "all", "max", "min", "sorted", "tuple", "list", "range", "enumerate", "zip", "isinstance", "set", "bool", "str"]
/-- a class of exceptions of the module, without an own __init__ -/
structure XcK (K : PySem.W.Frag) (mg : Str → Option Value) (c : String) (a : Addr) : Prop where
  g : mg (Str.ofString c) = some (.ref a)
  k : PySem.W.keepIn K (.ref a) = true
  x : ∃ bmB B newId initId, ExcBaseFacts B newId initId bmB ∧ PySem.W.excIn K a bmB newId = true
  s1 : PySem.W.subIn K (.ref a) (.type "BaseException") = some true
  s2 : PySem.W.typeIn K (.ref a) = some (.type "type")
/-- the defs, the constants of the module -/
structure Tbl (P : Program) (w : World) (K : PySem.W.Frag) (mg : Str → Option Value) (base : Heap) (k : Nat) (C : Cfg) (defs : String → Option Df) : Prop where
  fn : ∀ f df, defs f = some df → C.io f = df.io ∧ C.ff f = df.ff ∧ (∀ ds, ds.length ≠ df.np → ∃ m, C.F f ds = .er m) ∧ (df.ff = true → df.io ≠ [] → ∀ ds, ∃ m, C.F f ds = .er m) ∧ ∃ a fd ps, mg (Str.ofString f) = some (.ref a) ∧ PySem.W.keepIn K (.ref a) = true ∧ Binds K fd ps [] ∧ FnOk P w K mg base (L2.CX P w) k a fd ps (spM K mg df (C.F f))
  er : ∀ f ds, defs f = none → C.io f = [] ∧ C.ff f = false ∧ ∃ m, C.F f ds = .er m
  bt : ∀ x ∈ btNames, mg (Str.ofString x) = none
  xc : ∀ c, c ∈ xsAll → ∀ c', c' ∈ xsAll → ∀ a a', mg (Str.ofString c) = some (.ref a) → mg (Str.ofString c') = some (.ref a') → PySem.W.exmOne K (.ref a) (.ref a') = some (c' == c)
  gl : ∀ x d, C.G x = some d → isLst d = false ∧ ∃ u v, mg (Str.ofString x) = some u ∧ RelV v u ∧ ∀ H P, KF K H → (∀ a, P a → ∃ o, H a = some o) → Rep K H P v d
structure Okx (X : Cx) (C : Cfg) (defs : String → Option Df) (W : WX) (S : Sc) (k : Nat) : Prop where
  N : X.N = S.N
  nd : X.N.Nodup
  sc : X.env.scope = S.sc
  fn : ∀ x, S.fn x = true → X.fn x = true
  calm : X.calm = true
  tk : Takes X W
  tb : Tbl X.prog X.w X.K X.mg X.base k C defs
  room : Room k X.A
  df : ∀ f, S.df f = true → ∃ d, defs f = some d
  xs : ∀ c, S.xs c = true → c ∈ xsAll ∧ ∃ a, XcK X.K X.mg c a
  rs : ∀ c, S.rs c = true → c ∈ xsAll ∧ ∃ a, RefK X.prog X.K X.mg c a
  ge : 2 ≤ k
section
variable {X : Cx} {C : Cfg} {defs : String → Option Df} {W : WX} {S : Sc} {k : Nat}
theorem vis_of (o : Okx X C defs W S k) {i : Nat} {x : Str} (h : visB S i x = true) : X.N[i]? = some x ∧ Vis X.env.scope x ∧ (x == ("__debug__" : Str)) = false ∧ (x == ("__classdict__" : Str)) = false := by
  obtain ⟨h1, h2⟩ := dec2 h
  obtain ⟨h3, h4⟩ := dec2 h2
  obtain ⟨h5, h6⟩ := dec2 h4
  refine ⟨by rw [o.N]; exact of_decide_eq_true h1, ?_, by simpa using h5, by simpa using h6⟩
  rw [o.sc]
  unfold Vis
  cases e : S.sc.names.lookup x with
  | none => rw [e] at h3; cases h3
  | some q => rw [e] at h3; cases q <;> simp at h3 ⊢
theorem gl_of (o : Okx X C defs W S k) {f : String} {x : Str} (h : glB S f x = true) : x = Str.ofString f ∧ Gl X x ∧ (x == ("__debug__" : Str)) = false := by
  obtain ⟨h1, h2⟩ := dec2 h
  obtain ⟨h3, h4⟩ := dec2 h2
  refine ⟨(of_decide_eq_true h1).symm, ?_, by simpa using h4⟩
  show X.env.scope.names.lookup x = _
  rw [o.sc]
  exact of_decide_eq_true h3
theorem sto_of (o : Okx X C defs W S k) {i : Nat} {x : Str} (h : stoB S i x = true) : X.N[i]? = some x ∧ Loc X.env.scope x ∧ (X.fn x = true ∨ X.env.scope.names.lookup x = some .local) := by
  obtain ⟨h1, h2⟩ := dec2 h
  refine ⟨by rw [o.N]; exact of_decide_eq_true h1, ?_⟩
  rw [o.sc]
  rcases Bool.or_eq_true_iff.mp h2 with h | h
  · exact ⟨.inl (of_decide_eq_true h), .inr (of_decide_eq_true h)⟩
  · obtain ⟨h3, h4⟩ := dec2 h
    exact ⟨.inr (of_decide_eq_true h3), .inl (o.fn x h4)⟩
theorem pe_false {p : Expr} {t : TE} (h : ∀ σ H Q, ¬ t σ H Q) : PE X p t := ⟨fun _ _ σ H Q _ q => (h σ H Q q).elim⟩

/-! ### names -/
theorem s_read {i : Nat} {σ : L2.St} {H : Hp} {P0 : Addr → Prop} {α : Am} {ρ : Ev} {Q : VK} (f : FI X.K P0 α ρ σ H) (r : Run W X.K X.mg P0 σ α H (readV ρ i) fun d ρ' α' H' => ∀ u, OkV X.K P0 false H α' ρ' σ H' u d → Q u H') :
    ∃ v, σ[i]? = some (some v) ∧ Q v H := by
  unfold readV at r
  cases e : ρ[i]? with
  | none => rw [e] at r; exact r.elim
  | some s =>
    rw [e] at r
    cases s with
    | un => exact r.elim
    | xn _ _ => exact r.elim
    | sh d =>
      obtain ⟨v, h1, h2⟩ := f.sh i d e
      exact ⟨v, h1, r.here f v h2⟩
    | ow d =>
      obtain ⟨a, h1, h2, h3⟩ := f.demote e
      exact ⟨_, h1, r.at h3 ⟨fun _ _ h _ => h, fun _ _ h => (delA_le h).1, fun _ h => h⟩ _ h2⟩
theorem sE_var {i : Nat} {x : Str} {pos : Pos} (o : Okx X C defs W S k) (h : visB S i x = true) : PE X (.Name x pos) (tE X C W false (.var i)) := by
  obtain ⟨h1, h2, h3, h4⟩ := vis_of o h
  refine pe_by (pe_var h1 h2 h3 h4) ?_
  rintro σ H Q kf ⟨P0, α, ρ, f, r⟩
  rw [evE] at r
  obtain ⟨v, e1, e2⟩ := s_read f r
  exact ⟨v, e1, fun _ => e2⟩
theorem sA_bor {i : Nat} {x : Str} {pos : Pos} (o : Okx X C defs W S k) (h : visB S i x = true) : PE X (.Name x pos) (tA X C W (.bor i)) := by
  obtain ⟨h1, h2, h3, h4⟩ := vis_of o h
  refine pe_by (pe_var h1 h2 h3 h4) ?_
  rintro σ H Q kf ⟨P0, α, ρ, f, r⟩
  rw [evA] at r
  unfold getS at r
  cases e : ρ[i]? with
  | none => rw [e] at r; exact r.elim
  | some s =>
    rw [e] at r
    cases s with
    | un => exact r.elim
    | xn _ _ => exact r.elim
    | sh d =>
      obtain ⟨v, h1, h2⟩ := f.sh i d e
      exact ⟨v, h1, fun _ => r.here f v h1⟩
    | ow d =>
      obtain ⟨a, h1, h2, h3⟩ := f.ow i d e
      exact ⟨_, h2, fun _ => r.here f _ h2⟩
/-! ### constants -/
theorem sE_const {v : V} {d : D} {e : E} {p : Expr} (hp : PE X p (tC v)) (he : ∀ ρ, evE C e ρ = .ok d ρ) (hr : ∀ H P, Rep X.K H P v d) : PE X p (tE X C W false e) := by
  refine pe_by hp ?_
  rintro σ H Q kf ⟨P0, α, ρ, f, r⟩
  rw [he] at r
  exact fun _ => r.here f v (hr _ _)
theorem sE_glo {s : String} {x : Str} {pos : Pos} (o : Okx X C defs W S k) (h : glB S s x = true) : PE X (.Name x pos) (tE X C W false (.glo s)) := by
  obtain ⟨h1, h2, h3⟩ := gl_of o h
  cases e : C.G s with
  | none =>
    refine pe_false ?_
    rintro σ H Q ⟨P0, α, ρ, f, r⟩
    rw [evE, e] at r
    exact r
  | some d =>
    obtain ⟨_, u, v, g1, g2, g3⟩ := o.tb.gl s d e
    refine pe_by (pe_glob h2 (by rw [h1]; exact g1) g2 h3) ?_
    rintro σ H Q kf ⟨P0, α, ρ, f, r⟩
    rw [evE, e] at r
    exact fun _ => r.here f v (g3 H _ kf f.pu)

/-! ### the parts' readings -/
theorem two_now {P0 : Addr → Prop} {α1 α2 : Am} {ρ2 : Ev} {σ : L2.St} {H1 H2 : Hp} {x y : Arg} {u w : V} {ds : List D} (f2 : FI X.K P0 α2 ρ2 σ H2) (e2 : Ex1 α1 H1 α2 H2) (hx : ArgR X.K P0 α1 σ H1 x u) (hy : ArgR X.K P0 α2 σ H2 y w) (h : rsAll ρ2 [x, y] = some ds) :
    ∃ d e, ds = [d, e] ∧ RepC X.K H2 (PU P0 α2) u d ∧ RepC X.K H2 (PU P0 α2) w e := by
  have q := (ArgRs.cons (hx.ex1 e2) (.cons hy .nil)).now f2 h
  rcases ds with _ | ⟨d, _ | ⟨e, _ | ⟨g, r⟩⟩⟩
  · cases q
  · cases q with | cons _ q => cases q
  · obtain ⟨u', w', eu, h1, h2⟩ := q.two
    cases eu
    exact ⟨d, e, rfl, h1, h2⟩
  · cases q with | cons _ q => cases q with | cons _ q => cases q
theorem one_now {P0 : Addr → Prop} {α1 : Am} {ρ1 : Ev} {σ : L2.St} {H1 : Hp} {x : Arg} {u : V} {ds : List D} (f1 : FI X.K P0 α1 ρ1 σ H1) (hx : ArgR X.K P0 α1 σ H1 x u) (h : rsAll ρ1 [x] = some ds) : ∃ d, ds = [d] ∧ RepC X.K H1 (PU P0 α1) u d := by
  have q := (ArgRs.cons hx .nil).now f1 h
  rcases ds with _ | ⟨d, _ | ⟨e, r⟩⟩
  · cases q
  · obtain ⟨u', eu, h1⟩ := q.one
    cases eu
    exact ⟨d, rfl, h1⟩
  · cases q with | cons _ q => cases q
theorem withA_run {β : Type} {P0 : Addr → Prop} {σ : L2.St} {α : Am} {H : Hp} {as : List Arg} {ρ : Ev} {f : List D → R β} {ok : β → Ev → Am → Hp → Prop} (h : Run W X.K X.mg P0 σ α H (withA as ρ f) ok) : ∃ ds, rsAll ρ as = some ds ∧ Run W X.K X.mg P0 σ α H (f ds) ok := by
  unfold withA at h
  cases e : rsAll ρ as with
  | none => rw [e] at h; exact h.elim
  | some ds => rw [e] at h; exact ⟨ds, rfl, h⟩
/-- a result that Res asks for: the run goes on there -/
theorem res_run {P0 : Addr → Prop} {σ : L2.St} {α αs : Am} {H Hs : Hp} {ρ : Ev} {v : D} {fr : Bool} {Q : VK} (x : Ex1 αs Hs α H) (f : FI X.K P0 α ρ σ H) (r : Run W X.K X.mg P0 σ α H (.ok v ρ) fun d ρ' α' H' => ∀ u, OkV X.K P0 fr Hs α' ρ' σ H' u d → Q u H') :
    Res X.K H (PU P0 α) v fun u H' => KF X.K H' → Q u H' := by
  refine ⟨fun hl u H' k q _ => r.at (f.alloc k) (.al k) u (OkV.flat hl q), fun ds xs p e hp kf q _ => ?_⟩
  subst e
  exact r.at (f.alloc (Al.upd hp)) (.al (Al.upd hp)) _ (okV_new (x.nn hp) f hp kf q)
theorem sE_op {o : Op} {a b : E} {pa pb : Expr} {pos : Pos} {fr : Bool} (ha : PE X pa (tA X C W a)) (hb : PE X pb (tA X C W b)) : PE X (.BinOp pa (opP o) pb pos) (tE X C W fr (.op o a b)) := by
  refine pe_by (pe_op (op_ok o) ha hb) ?_
  rintro σ H Q kf ⟨P0, α, ρ, f, r⟩
  rw [evE] at r
  refine ⟨P0, α, ρ, f, (Run.bd r).mono fun x ρ1 α1 H1 f1 e1 r1 u hu => ⟨P0, α1, ρ1, f1, (Run.bd r1).mono fun y ρ2 α2 H2 f2 e2 r2 w hw => ?_⟩⟩
  obtain ⟨ds, h1, r3⟩ := withA_run r2
  obtain ⟨d, e, rfl, hd, he⟩ := two_now f2 e2 hu hw h1
  obtain ⟨v, h2, r4⟩ := Run.lift r3
  exact ⟨_, d, e, v, hd, he, f2.pu, h2, res_run (e1.trans e2) f2 r4⟩
theorem pe_weak {p : Expr} {t t' : TE} (h : PE X p t) (w : ∀ σ H Q, t' σ H Q → t σ H Q) : PE X p t' := ⟨fun pins s σ H Q I hq => h.run pins s σ H Q I (w σ H Q hq)⟩
theorem pt_weak {p : Expr} {t t' : TT} (h : PT X p t) (w : ∀ σ H Q, t' σ H Q → t σ H Q) : PT X p t' := ⟨fun pins s σ H Q I hq => h.run pins s σ H Q I (w σ H Q hq)⟩
theorem cmp_w {o : Cp} {a b : E} (σ : L2.St) (H : Hp) (Q : VK) : tE X C W false (.cmp o a b) σ H Q → tOp (rCp X.K o) (tA X C W a) (tA X C W b) σ H Q := by
  rintro ⟨P0, α, ρ, f, r⟩
  rw [evE] at r
  refine ⟨P0, α, ρ, f, (Run.bd r).mono fun x ρ1 α1 H1 f1 e1 r1 u hu => ⟨P0, α1, ρ1, f1, (Run.bd r1).mono fun y ρ2 α2 H2 f2 e2 r2 w hw => ?_⟩⟩
  obtain ⟨ds, h1, r3⟩ := withA_run r2
  obtain ⟨d, e, rfl, hd, he⟩ := two_now f2 e2 hu hw h1
  have r3' := (Run.bd r3)
  obtain ⟨b, h2, r4⟩ := Run.lift r3'
  exact ⟨_, d, e, b, hd, he, h2, (r4.here f2).here f2 _ (.bl b)⟩
theorem sE_cmp {o : Cp} {a b : E} {pa pb : Expr} {pos : Pos} (hu : X.A.units + 65 < cLine) (hm : behindInMarks (cpP o) pb = false) (ha : PE X pa (tA X C W a)) (hb : PE X pb (tA X C W b)) : PE X (.Compare pa [cpP o] [pb] pos) (tE X C W false (.cmp o a b)) :=
  pe_weak (pe_cmpR (cp_ok hu o) ha hb hm) cmp_w
theorem sE_neg {a : E} {pa : Expr} {pos : Pos} (ha : PE X pa (tE X C W false a)) : PE X (.UnaryOp .USub pa pos) (tE X C W false (.neg a)) := by
  refine pe_by (pe_un un_neg ha) ?_
  rintro σ H Q kf ⟨P0, α, ρ, f, r⟩
  rw [evE] at r
  refine ⟨P0, α, ρ, f, (Run.bd r).mono fun d ρ1 α1 H1 f1 e1 r1 u hu => ?_⟩
  have hu := OkV.rep hu
  cases d <;> try exact r1.elim
  cases hu
  exact ⟨_, rfl, fun _ => r1.here f1 _ (.int _)⟩
theorem sE_inv {a : E} {pa : Expr} {pos : Pos} (ha : PE X pa (tE X C W false a)) : PE X (.UnaryOp .Invert pa pos) (tE X C W false (.inv a)) := by
  refine pe_by (pe_un un_inv ha) ?_
  rintro σ H Q kf ⟨P0, α, ρ, f, r⟩
  rw [evE] at r
  refine ⟨P0, α, ρ, f, (Run.bd r).mono fun d ρ1 α1 H1 f1 e1 r1 u hu => ?_⟩
  have hu := OkV.rep hu
  cases d <;> try exact r1.elim
  cases hu
  exact ⟨_, rfl, fun _ => r1.here f1 _ (.int _)⟩
end
end JK

end
section
set_option Elab.async false
set_option linter.all false
set_option autoImplicit false
set_option maxRecDepth 100000
set_option maxHeartbeats 1000000
/-! JkE2: tests, displays, items, built-in calls. -/
namespace JK
open PySem PySem.Spec L2
section
variable {X : Cx} {C : Cfg} {defs : String → Option Df} {W : WX} {S : Sc} {k : Nat}
/-! ### truth -/
theorem sE_not {a : E} {pa : Expr} {pos : Pos} (ha : PE X pa (tA X C W a)) : PE X (.UnaryOp .Not pa pos) (tE X C W false (.not a)) := by
  refine pe_by (pe_notT ha) ?_
  rintro σ H Q kf ⟨P0, α, ρ, f, r⟩
  rw [evE] at r
  refine ⟨P0, α, ρ, f, (Run.bd r).mono fun x ρ1 α1 H1 f1 e1 r1 u hu => ?_⟩
  obtain ⟨ds, h1, r2⟩ := withA_run r1
  obtain ⟨d, rfl, hd⟩ := one_now f1 hu h1
  dsimp only at r2
  cases e : JK.truthy d with
  | none => rw [e] at r2; exact r2.elim
  | some b =>
    rw [e] at r2
    exact ⟨b, tru_of hd e, fun _ => r2.here f1 _ (.bl _)⟩
theorem sE_and {a b : E} {pa pb : Expr} {r : List Expr} {pos : Pos} (ha : PE X pa (tE X C W false a)) (hb : PE X (.BoolOp .And (pb :: r) pos) (tE X C W false b)) : PE X (.BoolOp .And (pa :: pb :: r) pos) (tE X C W false (.and a b)) := by
  refine pe_by (pe_andT ha hb) ?_
  rintro σ H Q kf ⟨P0, α, ρ, f, r⟩
  rw [evE] at r
  refine ⟨P0, α, ρ, f, (Run.bd r).mono fun d ρ1 α1 H1 f1 e1 r1 u hu => ?_⟩
  have hu := OkV.rep hu
  cases e : truthy d with
  | none => rw [e] at r1; exact r1.elim
  | some c =>
    rw [e] at r1
    refine ⟨c, tru_of (.cl hu) e, ?_⟩
    cases c with
    | true =>
      rw [if_pos rfl]
      exact ⟨P0, α1, ρ1, f1, r1.mono fun _ _ _ _ _ _ q u h _ => q u (h.later fun a z => e1.nn z)⟩
    | false =>
      rw [if_neg Bool.false_ne_true]
      exact fun _ => r1.here f1 u hu
theorem sE_or {a b : E} {pa pb : Expr} {r : List Expr} {pos : Pos} (ha : PE X pa (tE X C W false a)) (hb : PE X (.BoolOp .Or (pb :: r) pos) (tE X C W false b)) : PE X (.BoolOp .Or (pa :: pb :: r) pos) (tE X C W false (.or a b)) := by
  refine pe_by (pe_orT ha hb) ?_
  rintro σ H Q kf ⟨P0, α, ρ, f, r⟩
  rw [evE] at r
  refine ⟨P0, α, ρ, f, (Run.bd r).mono fun d ρ1 α1 H1 f1 e1 r1 u hu => ?_⟩
  have hu := OkV.rep hu
  cases e : truthy d with
  | none => rw [e] at r1; exact r1.elim
  | some c =>
    rw [e] at r1
    refine ⟨c, tru_of (.cl hu) e, ?_⟩
    cases c with
    | true =>
      rw [if_pos rfl]
      exact fun _ => r1.here f1 u hu
    | false =>
      rw [if_neg Bool.false_ne_true]
      exact ⟨P0, α1, ρ1, f1, r1.mono fun _ _ _ _ _ _ q u h _ => q u (h.later fun a z => e1.nn z)⟩
theorem sE_one {e : E} {p : Expr} {op : BoolOp} {pos : Pos} {fr : Bool} (h : PE X p (tE X C W fr e)) : PE X (.BoolOp op [p] pos) (tE X C W fr e) := pe_one h
theorem sE_tail {e : E} {op : BoolOp} {pb : Expr} {r : List Expr} {pos : Pos} {fr : Bool} (h : PE X (tailB op pb r pos) (tE X C W fr e)) : PE X (.BoolOp op (pb :: r) pos) (tE X C W fr e) := by
  cases r with
  | nil => exact pe_one h
  | cons _ _ => exact h
theorem chain_w {o o' : Cp} {a b c : E} (σ : L2.St) (H : Hp) (Q : VK) : tE X C W false (.chain o o' a b c) σ H Q → tChain (rCp X.K o) (rCp X.K o') (tE X C W false a) (tE X C W false b) (tE X C W false c) σ H Q := by
  rintro ⟨P0, α, ρ, f, r⟩
  rw [evE] at r
  refine ⟨P0, α, ρ, f, (Run.bd r).mono fun x ρ1 α1 H1 f1 e1 r1 u hu => ⟨P0, α1, ρ1, f1, (Run.bd r1).mono fun y ρ2 α2 H2 f2 e2 r2 w hw => ?_⟩⟩
  have hu' := hu.rep.ex1 e2
  have hw' := hw.rep
  obtain ⟨t, h2, r3⟩ := Run.lift (Run.bd r2)
  have r4 := r3.here f2
  refine ⟨_, x, y, t, .cl hu', .cl hw', h2, t, rfl, ?_⟩
  cases t with
  | true =>
    rw [if_pos rfl]
    rw [if_pos rfl] at r4
    refine ⟨P0, α2, ρ2, f2, (Run.bd r4).mono fun z ρ5 α5 H5 f5 e5 r5 v hv => ?_⟩
    obtain ⟨t', h6, r6⟩ := Run.lift (Run.bd r5)
    have r7 := r6.here f5
    exact ⟨_, y, z, t', .cl (hw'.ex1 e5), .cl hv.rep, h6, r7.here f5 _ (.bl _)⟩
  | false =>
    rw [if_neg Bool.false_ne_true]
    rw [if_neg Bool.false_ne_true] at r4
    exact r4.here f2 _ (.bl _)
theorem sE_chain {o o' : Cp} {a b c : E} {pa pb pc : Expr} {pos : Pos} (hu : X.A.units + 65 < cLine) (hm : lastMarks [cpP o, cpP o'] [pb, pc] = false) (ha : PE X pa (tE X C W false a)) (hb : PE X pb (tE X C W false b)) (hc : PE X pc (tE X C W false c)) :
    PE X (.Compare pa [cpP o, cpP o'] [pb, pc] pos) (tE X C W false (.chain o o' a b c)) := pe_weak (pe_chain (cp_ok hu o) (cp_ok hu o') ha hb hc hm) chain_w
/-! ### tests -/
theorem pt_ifx {pc pa pb : Expr} {tc ta tb : TT} {pos : Pos} (hc : PT X pc tc) (ha : PT X pa ta) (hb : PT X pb tb) : PT X (.IfExp pc pa pb pos) fun σ H Q => tc σ H fun c H1 => if c = true then ta σ H1 Q else tb σ H1 Q := by
  refine ⟨fun pins s σ H Q I h => ?_⟩
  refine PyProof.Rows.isTrue_IfExp (thn (hc.run pins s σ H _ I h) fun c s1 ⟨H1, I1, q⟩ => ?_)
  cases c with
  | true => exact ha.run pins s1 σ H1 Q I1 q
  | false => exact hb.run pins s1 σ H1 Q I1 q
theorem sE_ite {c a b : E} {pc pa pb : Expr} {pos : Pos} {fr : Bool} (hc : PT X pc (tT X C W c)) (ha : PE X pa (tE X C W fr a)) (hb : PE X pb (tE X C W fr b)) : PE X (.IfExp pc pa pb pos) (tE X C W fr (.ite c a b)) := by
  refine pe_by (pe_ifExp hc ha hb) ?_
  rintro σ H Q kf ⟨P0, α, ρ, f, r⟩
  rw [evE] at r
  refine ⟨P0, α, ρ, f, (Run.bd r).mono fun t ρ1 α1 H1 f1 e1 r1 => ?_⟩
  cases t with
  | true =>
    rw [if_pos rfl]
    rw [if_pos rfl] at r1
    exact ⟨P0, α1, ρ1, f1, r1.mono fun _ _ _ _ _ _ q u h _ => q u (h.later fun a z => e1.nn z)⟩
  | false =>
    rw [if_neg Bool.false_ne_true]
    rw [if_neg Bool.false_ne_true] at r1
    exact ⟨P0, α1, ρ1, f1, r1.mono fun _ _ _ _ _ _ q u h _ => q u (h.later fun a z => e1.nn z)⟩
theorem sA_ite {c a b : E} {pc pa pb : Expr} {pos : Pos} (hc : PT X pc (tT X C W c)) (ha : PE X pa (tA X C W a)) (hb : PE X pb (tA X C W b)) : PE X (.IfExp pc pa pb pos) (tA X C W (.ite c a b)) := by
  refine pe_by (pe_ifExp hc ha hb) ?_
  rintro σ H Q kf ⟨P0, α, ρ, f, r⟩
  rw [evA] at r
  refine ⟨P0, α, ρ, f, (Run.bd r).mono fun t ρ1 α1 H1 f1 e1 r1 => ?_⟩
  cases t with
  | true =>
    rw [if_pos rfl]
    rw [if_pos rfl] at r1
    exact ⟨P0, α1, ρ1, f1, r1.mono fun _ _ _ _ _ _ q u h _ => q u h⟩
  | false =>
    rw [if_neg Bool.false_ne_true]
    rw [if_neg Bool.false_ne_true] at r1
    exact ⟨P0, α1, ρ1, f1, r1.mono fun _ _ _ _ _ _ q u h _ => q u h⟩
theorem sA_of {e : E} {p : Expr} (he : ∀ ρ, evA C e ρ = (evE C e ρ).bd fun d ρ1 => .ok (.val d) ρ1) (h : PE X p (tE X C W false e)) : PE X p (tA X C W e) := by
  refine pe_by h ?_
  rintro σ H Q kf ⟨P0, α, ρ, f, r⟩
  rw [he] at r
  exact ⟨P0, α, ρ, f, (Run.bd r).mono fun d ρ1 α1 H1 f1 e1 r1 u hu _ => r1.here f1 u hu.rep⟩
theorem sT_not {a : E} {pa : Expr} {pos : Pos} (ha : PT X pa (tT X C W a)) : PT X (.UnaryOp .Not pa pos) (tT X C W (.not a)) := by
  refine pt_by (pt_not ha) ?_
  rintro σ H Q kf ⟨P0, α, ρ, f, r⟩
  rw [evT] at r
  exact ⟨P0, α, ρ, f, (Run.bd r).mono fun t ρ1 α1 H1 f1 e1 r1 _ => r1.here f1⟩
theorem sT_ite {c a b : E} {pc pa pb : Expr} {pos : Pos} (hc : PT X pc (tT X C W c)) (ha : PT X pa (tT X C W a)) (hb : PT X pb (tT X C W b)) : PT X (.IfExp pc pa pb pos) (tT X C W (.ite c a b)) := by
  refine pt_by (pt_ifx hc ha hb) ?_
  rintro σ H Q kf ⟨P0, α, ρ, f, r⟩
  rw [evT] at r
  refine ⟨P0, α, ρ, f, (Run.bd r).mono fun t ρ1 α1 H1 f1 e1 r1 => ?_⟩
  cases t with
  | true =>
    rw [if_pos rfl]
    rw [if_pos rfl] at r1
    exact ⟨P0, α1, ρ1, f1, r1.mono fun _ _ _ _ _ _ q _ => q⟩
  | false =>
    rw [if_neg Bool.false_ne_true]
    rw [if_neg Bool.false_ne_true] at r1
    exact ⟨P0, α1, ρ1, f1, r1.mono fun _ _ _ _ _ _ q _ => q⟩
theorem sT_and {a b : E} {pa pb : Expr} {r : List Expr} {pos : Pos} (ha : PT X pa (tT X C W a)) (hb : PW X (.BoolOp .And (pb :: r) pos) (tT X C W b)) : PW X (.BoolOp .And (pa :: pb :: r) pos) (tT X C W (.and a b)) := by
  refine pw_by (pw_and ha hb) ?_
  rintro σ H Q kf ⟨P0, α, ρ, f, r⟩
  rw [evT] at r
  refine ⟨P0, α, ρ, f, (Run.bd r).mono fun t ρ1 α1 H1 f1 e1 r1 => ?_⟩
  cases t with
  | true =>
    rw [if_pos rfl]
    rw [if_pos rfl] at r1
    exact ⟨P0, α1, ρ1, f1, r1.mono fun _ _ _ _ _ _ q _ => q⟩
  | false =>
    rw [if_neg Bool.false_ne_true]
    rw [if_neg Bool.false_ne_true] at r1
    exact fun _ => r1.here f1
theorem sT_or {a b : E} {pa pb : Expr} {r : List Expr} {pos : Pos} (ha : PT X pa (tT X C W a)) (hb : PW X (.BoolOp .Or (pb :: r) pos) (tT X C W b)) : PW X (.BoolOp .Or (pa :: pb :: r) pos) (tT X C W (.or a b)) := by
  refine pw_by (pw_or ha hb) ?_
  rintro σ H Q kf ⟨P0, α, ρ, f, r⟩
  rw [evT] at r
  refine ⟨P0, α, ρ, f, (Run.bd r).mono fun t ρ1 α1 H1 f1 e1 r1 => ?_⟩
  cases t with
  | true =>
    rw [if_pos rfl]
    rw [if_pos rfl] at r1
    exact fun _ => r1.here f1
  | false =>
    rw [if_neg Bool.false_ne_true]
    rw [if_neg Bool.false_ne_true] at r1
    exact ⟨P0, α1, ρ1, f1, r1.mono fun _ _ _ _ _ _ q _ => q⟩
/-- a test that is its value's truth -/
def plainT : E → Bool
  | .not _ => false | .and _ _ => false | .or _ _ => false | .ite _ _ _ => false | .bor _ => false
  | _ => true
theorem evT_plain {C : Cfg} {e : E} (h : plainT e = true) (ρ : Ev) : evT C e ρ = (evE C e ρ).bd fun d ρ1 => match truthy d with
    | some b => .ok b ρ1
    | none => .er "truth" := by
  cases e <;> first
    | (cases h; done)
    | (rw [evT]; done)
    | (rw [evT] <;> first | rfl | (intros; contradiction))
theorem evT_cmp (C : Cfg) (o : Cp) (a b : E) (ρ : Ev) : evT C (.cmp o a b) ρ = (evE C (.cmp o a b) ρ).bd fun d ρ1 => match truthy d with
    | some b => .ok b ρ1
    | none => .er "truth" := evT_plain rfl ρ
theorem evT_chain (C : Cfg) (o o' : Cp) (a b c : E) (ρ : Ev) : evT C (.chain o o' a b c) ρ = (evE C (.chain o o' a b c) ρ).bd fun d ρ1 => match truthy d with
    | some b => .ok b ρ1
    | none => .er "truth" := evT_plain rfl ρ
/-- any other test: the value's truth -/
theorem sT_val {e : E} {p : Expr} (he : ∀ ρ, evT C e ρ = (evE C e ρ).bd fun d ρ1 => match truthy d with
    | some b => .ok b ρ1
    | none => .er "truth") (hp : ∀ whole, isTrue p X.env whole = (do let v ← whole; standAt p.pos; holding [v] (PySem.truthy v))) (h : PE X p (tE X C W false e)) : PT X p (tT X C W e) := by
  refine pt_by (pt_truth h hp) ?_
  rintro σ H Q kf ⟨P0, α, ρ, f, r⟩
  rw [he] at r
  refine ⟨P0, α, ρ, f, (Run.bd r).mono fun d ρ1 α1 H1 f1 e1 r1 u hu => ?_⟩
  cases e : JK.truthy d with
  | none => rw [e] at r1; exact r1.elim
  | some c =>
    rw [e] at r1
    exact ⟨c, tru_of (.cl hu.rep) e, fun _ => r1.here f1⟩
theorem cmp_bool {e : E} {ρ ρ1 : Ev} {d : D} (he : (∃ o a b, e = .cmp o a b) ∨ ∃ o o' a b c, e = .chain o o' a b c) (h : evE C e ρ = .ok d ρ1) : ∃ b, d = .bool b := by
  rcases he with ⟨o, a, b, rfl⟩ | ⟨o, o', a, b, c, rfl⟩
  · rw [evE] at h
    obtain ⟨x, ρ2, _, h⟩ := bd_ok h
    obtain ⟨y, ρ3, _, h⟩ := bd_ok h
    unfold withA at h
    split at h
    · dsimp only at h
      split at h
      · obtain ⟨t, ρ4, _, h⟩ := bd_ok h
        cases h
        exact ⟨_, rfl⟩
      · cases h
    · cases h
  · rw [evE] at h
    obtain ⟨x, ρ2, _, h⟩ := bd_ok h
    obtain ⟨y, ρ3, _, h⟩ := bd_ok h
    obtain ⟨t, ρ4, _, h⟩ := bd_ok h
    split at h
    · obtain ⟨z, ρ5, _, h⟩ := bd_ok h
      obtain ⟨t', ρ6, _, h⟩ := bd_ok h
      cases h
      exact ⟨_, rfl⟩
    · cases h
      exact ⟨_, rfl⟩
/-- .. a comparison -/
theorem tst_w {e : E} {t : TE} (he : ∀ ρ, evT C e ρ = (evE C e ρ).bd fun d ρ1 => match truthy d with
    | some b => .ok b ρ1
    | none => .er "truth") (hb : (∃ o a b, e = .cmp o a b) ∨ ∃ o o' a b c, e = .chain o o' a b c) (w : ∀ σ H Q, tE X C W false e σ H Q → t σ H Q) (σ : L2.St) (H : Hp) (Q : Bool → Hp → Prop) : tT X C W e σ H Q → tTest t σ H Q := by
  rintro ⟨P0, α, ρ, f, r⟩
  rw [he] at r
  refine w σ H _ ⟨P0, α, ρ, f, (Run.bd r).monoE fun d ρ1 α1 H1 eq f1 e1 r1 u hu => ?_⟩
  obtain ⟨b, rfl⟩ := cmp_bool hb eq
  have h := OkV.rep hu
  cases h
  exact ⟨b, rfl, r1.here f1⟩
theorem sT_cmp {o : Cp} {a b : E} {pa pb : Expr} {pos : Pos} (hu : X.A.units + 65 < cLine) (hm : behindInMarks (cpP o) pb = false) (ha : PE X pa (tA X C W a)) (hb : PE X pb (tA X C W b)) : PT X (.Compare pa [cpP o] [pb] pos) (tT X C W (.cmp o a b)) :=
  pt_weak (pt_cmpR (cp_ok hu o) ha hb hm) (tst_w (evT_cmp _ _ _ _) (.inl ⟨o, a, b, rfl⟩) cmp_w)
theorem sT_chain {o o' : Cp} {a b c : E} {pa pb pc : Expr} {pos : Pos} (hu : X.A.units + 65 < cLine) (hm : lastMarks [cpP o, cpP o'] [pb, pc] = false) (ha : PE X pa (tE X C W false a)) (hb : PE X pb (tE X C W false b)) (hc : PE X pc (tE X C W false c)) :
    PT X (.Compare pa [cpP o, cpP o'] [pb, pc] pos) (tT X C W (.chain o o' a b c)) := pt_weak (pt_chain (cp_ok hu o) (cp_ok hu o') ha hb hc hm) (tst_w (evT_chain _ _ _ _ _ _) (.inr ⟨o, o', a, b, c, rfl⟩) chain_w)
/-! ### lists of parts -/
theorem sEs_nil : PA X [] (tEs X C W []) := by
  refine pa_by pa_nil ?_
  rintro σ H Q kf ⟨P0, α, ρ, f, r⟩
  rw [evEs_nil] at r
  exact fun _ => r.here f [] .nil
theorem sEs_cons {e : E} {es : List E} {p : Expr} {ps : List Expr} (hn : nonStar p = true) (h1 : PE X p (tE X C W false e)) (h2 : PA X ps (tEs X C W es)) : PA X (p :: ps) (tEs X C W (e :: es)) := by
  refine pa_by (pa_cons h1 h2 (star_cons hn)) ?_
  rintro σ H Q kf ⟨P0, α, ρ, f, r⟩
  rw [evEs_cons] at r
  refine ⟨P0, α, ρ, f, (Run.bd r).mono fun d ρ1 α1 H1 f1 e1 r1 u hu => ⟨P0, α1, ρ1, f1, (Run.bd r1).mono fun ds ρ2 α2 H2 f2 e2 r2 us hus kf2 => ?_⟩⟩
  exact r2.here f2 _ (.cons (hu.rep.ex1 e2) hus)
theorem sAs_nil : PA X [] (tAs X C W []) := by
  refine pa_by pa_nil ?_
  rintro σ H Q kf ⟨P0, α, ρ, f, r⟩
  rw [evAs_nil] at r
  exact fun _ => r.here f [] .nil
theorem sAs_cons {e : E} {es : List E} {p : Expr} {ps : List Expr} (hn : nonStar p = true) (h1 : PE X p (tA X C W e)) (h2 : PA X ps (tAs X C W es)) : PA X (p :: ps) (tAs X C W (e :: es)) := by
  refine pa_by (pa_cons h1 h2 (star_cons hn)) ?_
  rintro σ H Q kf ⟨P0, α, ρ, f, r⟩
  rw [evAs_cons] at r
  refine ⟨P0, α, ρ, f, (Run.bd r).mono fun d ρ1 α1 H1 f1 e1 r1 u hu => ⟨P0, α1, ρ1, f1, (Run.bd r1).mono fun ds ρ2 α2 H2 f2 e2 r2 us hus kf2 => ?_⟩⟩
  exact r2.here f2 _ (.cons (hu.ex1 e2) hus)
/-! ### displays -/
theorem evEs_len {C : Cfg} : ∀ {es : List E} {ρ ρ' : Ev} {xs : List D}, evEs C es ρ = .ok xs ρ' → xs.length = es.length
  | [], ρ, ρ', xs, h => by
    rw [evEs_nil] at h
    cases h
    rfl
  | e :: es, ρ, ρ', xs, h => by
    rw [evEs_cons] at h
    obtain ⟨a, ρ1, h1, h2⟩ := bd_ok h
    obtain ⟨as, ρ2, h3, h4⟩ := bd_ok h2
    cases h4
    rw [List.length_cons, List.length_cons, evEs_len h3]
theorem sE_tup {es : List E} {ps : List Expr} {j : Nat} {pos : Pos} (hl : es.length ≤ 1000) (h : PA X ps (tEs X C W es)) : PE X (.Tuple ps j pos) (tE X C W false (.tup es)) := by
  refine pe_by (pe_tup h) ?_
  rintro σ H Q kf ⟨P0, α, ρ, f, r⟩
  rw [evE] at r
  refine ⟨P0, α, ρ, f, (Run.bd r).monoE fun ds ρ1 α1 H1 eq f1 e1 r1 us hus => ⟨?_, fun p hp _ => ?_⟩⟩
  · rw [hus.length, evEs_len eq, sizeLine_eq]
    omega
  · exact r1.at (f1.alloc (Al.upd hp)) (.al (Al.upd hp)) _ (OkV.flat rfl (.tup (.of upd_same) (np_of f1.pu hp) (hus.al (Al.upd hp))))
theorem sE_lst {es : List E} {ps : List Expr} {pos : Pos} {fr : Bool} (hl : es.length ≤ 1000) (h : PA X ps (tEs X C W es)) : PE X (.List ps pos) (tE X C W fr (.lst es)) := by
  refine pe_by (pe_lst h) ?_
  rintro σ H Q kf ⟨P0, α, ρ, f, r⟩
  rw [evE] at r
  refine ⟨P0, α, ρ, f, (Run.bd r).monoE fun ds ρ1 α1 H1 eq f1 e1 r1 us hus => ⟨?_, fun p hp kf2 => ?_⟩⟩
  · rw [hus.length, evEs_len eq, sizeLine_eq]
    omega
  · exact r1.at (f1.alloc (Al.upd hp)) (.al (Al.upd hp)) _ (okV_new (e1.nn hp) f1 hp kf2 hus)
end
end JK

end
section
set_option Elab.async false
set_option linter.all false
set_option autoImplicit false
set_option maxRecDepth 100000
set_option maxHeartbeats 1000000
/-! JkE3: items, slices, built-in calls, pop. -/
namespace JK
open PySem PySem.Spec L2
section
variable {X : Cx} {C : Cfg} {defs : String → Option Df} {W : WX} {S : Sc} {k : Nat}
theorem plain_ix {p : Expr} (h : (match p with | .Slice .. => false | .Tuple .. => false | _ => true) = true) : PlainIx p := by
  cases p <;> first | (intro _ _; rfl) | cases h
theorem sE_sub {a b : E} {pa pb : Expr} {pos : Pos} (hs : PlainIx pb) (ha : PE X pa (tA X C W a)) (hb : PE X pb (tA X C W b)) : PE X (.Subscript pa pb pos) (tE X C W false (.sub a b)) := by
  refine pe_weak (pe_ix sub_ok ha hb hs) ?_
  rintro σ H Q ⟨P0, α, ρ, f, r⟩
  rw [evE] at r
  refine ⟨P0, α, ρ, f, (Run.bd r).mono fun x ρ1 α1 H1 f1 e1 r1 u hu => ⟨P0, α1, ρ1, f1, (Run.bd r1).mono fun y ρ2 α2 H2 f2 e2 r2 w hw => ?_⟩⟩
  obtain ⟨ds, h1, r3⟩ := withA_run r2
  obtain ⟨d, e, rfl, hd, he⟩ := two_now f2 e2 hu hw h1
  obtain ⟨v, h2, r4⟩ := Run.lift r3
  exact ⟨_, d, e, v, hd, he, h2, fun z hz => r4.here f2 z hz⟩
def tO (X : Cx) (C : Cfg) (W : WX) (es : List E) : TO := fun σ H Q => ∃ P0 α ρ, FI X.K P0 α ρ σ H ∧ Run W X.K X.mg P0 σ α H (evEs C es ρ) fun ds ρ' α' H' => ∃ o, optI ds = some o ∧ Q o H'
theorem po_weak {p : Option Expr} {t t' : TO} (h : PO X p t) (w : ∀ σ H Q, t' σ H Q → t σ H Q) : PO X p t' := ⟨fun pins s σ H Q I hq => h.run pins s σ H Q I (w σ H Q hq)⟩
theorem sO_nil : PO X none (tO X C W []) := by
  refine po_weak po_none ?_
  rintro σ H Q ⟨P0, α, ρ, f, r⟩
  rw [evEs_nil] at r
  obtain ⟨o, e, q⟩ := r.here f
  cases e
  exact q
theorem evEs_one (C : Cfg) (e : E) (ρ : Ev) : evEs C [e] ρ = (evE C e ρ).bd fun d ρ1 => .ok [d] ρ1 := by
  rw [evEs_cons]
  congr 1
  funext d ρ1
  rw [evEs_nil]
  rfl
theorem sO_one {e : E} {p : Expr} (h : PE X p (tE X C W false e)) : PO X (some p) (tO X C W [e]) := by
  refine po_weak (po_some h) ?_
  rintro σ H Q ⟨P0, α, ρ, f, r⟩
  rw [evEs_one] at r
  refine ⟨P0, α, ρ, f, (Run.bd r).mono fun d ρ1 α1 H1 f1 e1 r1 u hu => ?_⟩
  obtain ⟨o, e, q⟩ := r1.here f1
  cases d <;> cases e
  have h := OkV.rep hu
  cases h
  exact ⟨_, rfl, q⟩
theorem sE_slc {a : E} {lo hi : List E} {pa : Expr} {plo phi : Option Expr} {p2 pos : Pos} {fr : Bool} (ha : PE X pa (tA X C W a)) (hl : PO X plo (tO X C W lo)) (hh : PO X phi (tO X C W hi)) : PE X (.Subscript pa (.Slice plo phi none p2) pos) (tE X C W fr (.slc a lo hi)) := by
  refine pe_by (pe_slice slc_ok ha hl hh) ?_
  rintro σ H Q kf ⟨P0, α, ρ, f, r⟩
  rw [evE] at r
  refine ⟨P0, α, ρ, f, (Run.bd r).mono fun x ρ1 α1 H1 f1 e1 r1 u hu => ⟨P0, α1, ρ1, f1, (Run.bd r1).mono fun l ρ2 α2 H2 f2 e2 r2 => ?_⟩⟩
  cases hlv : optI l with
  | none => rw [hlv] at r2; exact r2.elim
  | some lv =>
    rw [hlv] at r2
    refine ⟨lv, rfl, P0, α2, ρ2, f2, (Run.bd r2).mono fun h ρ3 α3 H3 f3 e3 r3 => ?_⟩
    cases hhv : optI h with
    | none => rw [hhv] at r3; exact r3.elim
    | some hv =>
      rw [hhv] at r3
      obtain ⟨ds, h1, r4⟩ := withA_run r3
      obtain ⟨d, rfl, hd⟩ := one_now f3 ((hu.ex1 e2).ex1 e3) h1
      obtain ⟨v, h2, r5⟩ := Run.lift r4
      exact ⟨hv, rfl, _, d, v, hd, f3.pu, h2, res_run ((e1.trans e2).trans e3) f3 r5⟩
theorem sE_rev {a : E} {pa : Expr} {j : Nat} {p1 p2 p3 pos : Pos} {fr : Bool} (ha : PE X pa (tA X C W a)) : PE X (.Subscript pa (.Slice none none (some (.UnaryOp .USub (.Constant (.int 1) j p1) p2)) p3) pos) (tE X C W fr (.rev a)) := by
  refine pe_by (pe_revL ha) ?_
  rintro σ H Q kf ⟨P0, α, ρ, f, r⟩
  rw [evE] at r
  refine ⟨P0, α, ρ, f, (Run.bd r).mono fun x ρ1 α1 H1 f1 e1 r1 u hu => ?_⟩
  obtain ⟨ds, h1, r4⟩ := withA_run r1
  obtain ⟨d, rfl, hd⟩ := one_now f1 hu h1
  cases d <;> try exact r4.elim
  obtain ⟨b, xs, rfl, h2, r2⟩ := hd.lst
  exact ⟨b, xs, rfl, .inl h2, fun p hp kf2 => r4.at (f1.alloc (Al.upd hp)) (.al (Al.upd hp)) _ (okV_new (e1.nn hp) f1 hp kf2 r2.reverse)⟩
/-! ### built-in calls -/
theorem sE_bi {b : Bi} {es : List E} {ps : List Expr} {p : Expr} {fr : Bool} (ha : PA X ps (tAs X C W es)) (hp : PE X p (tCB (rBi X.K b) (tAs X C W es))) : PE X p (tE X C W fr (.bi b es)) := by
  refine pe_by hp ?_
  rintro σ H Q kf ⟨P0, α, ρ, f, r⟩
  rw [evE] at r
  refine ⟨P0, α, ρ, f, (Run.bd r).mono fun xs ρ1 α1 H1 f1 e1 r1 us hu => ?_⟩
  obtain ⟨ds, h1, r2⟩ := withA_run r1
  obtain ⟨v, h2, r3⟩ := Run.lift r2
  exact ⟨_, ds, v, hu.now f1 h1, f1.pu, h2, res_run e1 f1 r3⟩
theorem sE_isi {t : String} {a : E} {pa : Expr} {x y : Str} {p p1 pos : Pos} (o : Okx X C defs W S k) (hx : glB S "isinstance" x = true) (hy : glB S t y = true) (ht : t ∈ isTys) (hn : nonStar pa = true) (ha : PE X pa (tA X C W a)) :
    PE X (.Call (.Name x p) [pa, .Name y p1] [] pos) (tE X C W false (.isi t a)) := by
  obtain ⟨rfl, g1, d1⟩ := gl_of o hx
  obtain ⟨rfl, g2, d2⟩ := gl_of o hy
  have bt : t ∈ btNames := by
    revert ht
    have : ∀ t ∈ isTys, t ∈ btNames := by decide
    exact this t
  have bb : ∀ t ∈ isTys, bootBuiltins (Str.ofString t) = some (.type t) := by decide +kernel
  have nn : ∀ t ∈ isTys, Str.ofString t ≠ ("__name__" : Str) := by decide +kernel
  have hA : PA X [pa, .Name (Str.ofString t) p1] (tCons (tA X C W a) (tCons (tC (.ty t)) tNil)) :=
    pa_cons ha (pa_cons (pe_bltn g2 (o.tb.bt t bt) (bb t ht) rfl (nn t ht) d2) pa_nil) (star_cons hn)
  refine pe_weak (pe_callB (isi_ok ht) g1 (o.tb.bt _ (by decide)) (by decide +kernel) hA (by decide +kernel) d1 (star_cons hn) (star_any (by simp [nonStar]))) ?_
  rintro σ H Q ⟨P0, α, ρ, f, r⟩
  rw [evE] at r
  refine ⟨P0, α, ρ, f, (Run.bd r).mono fun x ρ1 α1 H1 f1 e1 r1 u hu => ?_⟩
  obtain ⟨ds, h1, r4⟩ := withA_run r1
  obtain ⟨d, rfl, hd⟩ := one_now f1 hu h1
  obtain ⟨v, h2, r5⟩ := Run.lift (Run.bd r4)
  exact ⟨_, d, u, v, rfl, hd, h2, (r5.here f1).here f1 _ (.bl v)⟩
theorem sE_sset {es : List E} {qs : List Expr} {x y : Str} {p p1 pos pos1 : Pos} {fr : Bool} (o : Okx X C defs W S k) (hx : glB S "sorted" x = true) (hy : glB S "set" y = true) (hl : es.length = 1) (hq : ∃ q, qs = [q] ∧ nonStar q = true) (ha : PA X qs (tAs X C W es)) :
    PE X (.Call (.Name x p) [.Call (.Name y p1) qs [] pos1] [] pos) (tE X C W fr (.bi .sset es)) := by
  obtain ⟨rfl, g1, d1⟩ := gl_of o hx
  obtain ⟨rfl, g2, d2⟩ := gl_of o hy
  obtain ⟨q, rfl, hn⟩ := hq
  have inner := pe_callTy (pos := pos1) (p := p1) (set_ok o.calm) g2 (o.tb.bt _ (by decide)) PyProof.Rows.boot_set ha (by decide +kernel) d2 (star_cons hn) rfl
  refine pe_by (pe_callB (cr_sortedSet o.calm) g1 (o.tb.bt _ (by decide)) PyProof.Rows.boot_sorted (pa_cons inner pa_nil) (by decide +kernel) d1) ?_
  rintro σ H Q kf ⟨P0, α, ρ, f, r⟩
  rw [evE] at r
  refine ⟨P0, α, ρ, f, (Run.bd r).monoE fun xs ρ1 α1 H1 eq f1 e1 r1 us hu => ?_⟩
  obtain ⟨ds, h1, r2⟩ := withA_run r1
  obtain ⟨v, h2, r3⟩ := Run.lift r2
  have hc := hu.now f1 h1
  have hn' : ds.length = 1 := (rsAll_len h1).trans ((evAs_len eq).trans hl)
  rcases ds with _ | ⟨d, _ | ⟨d2, r⟩⟩
  · cases hn'
  · obtain ⟨u, rfl, hd⟩ := hc.one
    have key : ∃ zs ns, (d = .list zs ∨ d = .tuple zs) ∧ intsD zs = some ns ∧ ns.length < 1000 ∧ (nubI ns).length < 64 ∧ v = .list ((sortI (nubI ns)).map .int) := by
      cases d <;> simp only [biD] at h2 <;> try (cases h2; done)
      all_goals
        split at h2
        · rename_i ns e
          split at h2
          · rename_i c
            cases h2
            obtain ⟨c1, c2⟩ := dec2 c
            exact ⟨_, ns, by simp, e, of_decide_eq_true c1, of_decide_eq_true c2, rfl⟩
          · cases h2
        · cases h2
    obtain ⟨zs, ns, hz, hi, c1, c2, rfl⟩ := key
    refine ⟨_, d, ns, u, rfl, hd, ⟨zs, hz, hi⟩, c1, fun p hp => ⟨p, _, _, rfl, upd_same, c2, fun ms p2 m1 m2 m3 hp2 kf2 => ?_⟩⟩
    have e := sset_eq m1 (m := ns) fun k => by rw [m2 k]; exact decide_eq_true_iff
    subst e
    have f2 := f1.alloc (Al.upd (o := SetO X.w p (fun j => decide (j ∈ ns)) (nubI ns).length) hp)
    exact r3.at (f2.alloc (Al.upd hp2)) (.al ((Al.upd hp).trans (Al.upd hp2))) _ (okV_new ((e1.trans (.al (Al.upd hp))).nn hp2) f2 hp2 kf2 (repL_ints _))
  · cases hn'
theorem sE_lset {es : List E} {qs : List Expr} {x y : Str} {p p1 pos pos1 : Pos} (o : Okx X C defs W S k) (hx : glB S "len" x = true) (hy : glB S "set" y = true) (hl : es.length = 1) (hq : ∃ q, qs = [q] ∧ nonStar q = true) (ha : PA X qs (tAs X C W es)) :
    PE X (.Call (.Name x p) [.Call (.Name y p1) qs [] pos1] [] pos) (tE X C W false (.bi .lset es)) := by
  obtain ⟨rfl, g1, d1⟩ := gl_of o hx
  obtain ⟨rfl, g2, d2⟩ := gl_of o hy
  obtain ⟨q, rfl, hn⟩ := hq
  have inner := pe_callTy (pos := pos1) (p := p1) (set_ok o.calm) g2 (o.tb.bt _ (by decide)) PyProof.Rows.boot_set ha (by decide +kernel) d2 (star_cons hn) rfl
  refine pe_by (pe_callB call_lenS g1 (o.tb.bt _ (by decide)) PySem.boot_len (pa_cons inner pa_nil) (by decide +kernel) d1) ?_
  rintro σ H Q kf ⟨P0, α, ρ, f, r⟩
  rw [evE] at r
  refine ⟨P0, α, ρ, f, (Run.bd r).monoE fun xs ρ1 α1 H1 eq f1 e1 r1 us hu => ?_⟩
  obtain ⟨ds, h1, r2⟩ := withA_run r1
  obtain ⟨v, h2, r3⟩ := Run.lift r2
  have hc := hu.now f1 h1
  have hn' : ds.length = 1 := (rsAll_len h1).trans ((evAs_len eq).trans hl)
  rcases ds with _ | ⟨d, _ | ⟨d2, r⟩⟩
  · cases hn'
  · obtain ⟨u, rfl, hd⟩ := hc.one
    have key : ∃ zs ns, (d = .list zs ∨ d = .tuple zs) ∧ intsD zs = some ns ∧ ns.length < 1000 ∧ v = .int (nubI ns).length := by
      cases d <;> simp only [biD] at h2 <;> try (cases h2; done)
      all_goals
        split at h2
        · rename_i ns e
          split at h2
          · rename_i c
            cases h2
            exact ⟨_, ns, by simp, e, of_decide_eq_true c, rfl⟩
          · cases h2
        · cases h2
    obtain ⟨zs, ns, hz, hi, c1, rfl⟩ := key
    refine ⟨_, d, ns, u, rfl, hd, ⟨zs, hz, hi⟩, c1, fun p hp => ⟨p, _, _, rfl, upd_same, Nat.lt_of_le_of_lt (nubI_len ns) c1, fun _ => ?_⟩⟩
    have f2 := f1.alloc (Al.upd (o := SetO X.w p (fun j => decide (j ∈ ns)) (nubI ns).length) hp)
    exact r3.at f2 (.al (Al.upd hp)) _ (OkV.of (.int _))
  · cases hn'
/-! ### list(range(..)), tuple(range(..)) -/
def tRg (X : Cx) (C : Cfg) (W : WX) (es : List E) : L2.St → Hp → (Int → Int → Hp → Prop) → Prop := fun σ H Q => ∃ P0 α ρ, FI X.K P0 α ρ σ H ∧ Run W X.K X.mg P0 σ α H (evAs C es ρ) fun xs ρ' α' H' => ∃ ds a b, rsAll ρ' xs = some ds ∧ (ds = [.int b] ∧ a = 0 ∨ ds = [.int a, .int b]) ∧ Q a b H'
theorem prg_weak {p : Expr} {t t' : L2.St → Hp → (Int → Int → Hp → Prop) → Prop} (h : PRg X p t) (w : ∀ σ H Q, t' σ H Q → t σ H Q) : PRg X p t' := fun pins s σ H Q I hq => h pins s σ H Q I (w σ H Q hq)
end
end JK

end
section
set_option Elab.async false
set_option linter.all false
set_option autoImplicit false
set_option maxRecDepth 100000
set_option maxHeartbeats 1000000
/-! JkE4: list(range(..)), pop, zip. -/
namespace JK
open PySem PySem.Spec L2
section
variable {X : Cx} {C : Cfg} {defs : String → Option Df} {W : WX} {S : Sc} {k : Nat}
theorem ev_bd2 {C : Cfg} (e e2 : E) (ρ : Ev) : evAs C [e, e2] ρ = (evA C e ρ).bd fun d ρ1 => (evA C e2 ρ1).bd fun d2 ρ2 => .ok [d, d2] ρ2 := by
  rw [evAs_cons]
  congr 1
  funext d ρ1
  rw [evAs_one]
  cases evA C e2 ρ1 <;> rfl
theorem sRg1 {e : E} {q : Expr} {y : Str} {p pos : Pos} (o : Okx X C defs W S k) (hy : glB S "range" y = true) (hn : nonStar q = true) (he : PE X q (tA X C W e)) : PRg X (.Call (.Name y p) [q] [] pos) (tRg X C W [e]) := by
  obtain ⟨rfl, g2, d2⟩ := gl_of o hy
  refine prg_weak (prg_1 g2 (o.tb.bt _ (by decide)) he (star_cons hn)) ?_
  rintro σ H Q ⟨P0, α, ρ, f, r⟩
  rw [evAs_one] at r
  refine ⟨P0, α, ρ, f, (Run.bd r).mono fun x ρ1 α1 H1 f1 e1 r1 u hu => ?_⟩
  obtain ⟨ds, a, b, h1, h2, q⟩ := r1.here f1
  obtain ⟨d, rfl, hd⟩ := one_now f1 hu h1
  rcases h2 with ⟨h2, rfl⟩ | h2
  · cases h2
    exact ⟨b, hd.int, q⟩
  · cases h2
theorem sRg2 {e e2 : E} {q q2 : Expr} {y : Str} {p pos : Pos} (o : Okx X C defs W S k) (hy : glB S "range" y = true) (hn : nonStar q = true) (hn2 : nonStar q2 = true) (he : PE X q (tA X C W e)) (he2 : PE X q2 (tA X C W e2)) : PRg X (.Call (.Name y p) [q, q2] [] pos) (tRg X C W [e, e2]) := by
  obtain ⟨rfl, g2, d2⟩ := gl_of o hy
  refine prg_weak (prg_2 g2 (o.tb.bt _ (by decide)) he he2 (by rw [star_cons hn, star_cons hn2]) (star_cons hn2) (star_any (by simp [hn2]))) ?_
  rintro σ H Q ⟨P0, α, ρ, f, r⟩
  rw [ev_bd2] at r
  refine ⟨P0, α, ρ, f, (Run.bd r).mono fun x ρ1 α1 H1 f1 e1 r1 u hu => ⟨P0, α1, ρ1, f1, (Run.bd r1).mono fun x2 ρ2 α2 H2 f2 e2 r2 u2 hu2 => ?_⟩⟩
  obtain ⟨ds, a, b, h1, h2, q⟩ := r2.here f2
  obtain ⟨d, d', rfl, hd, hd'⟩ := two_now f2 e2 hu hu2 h1
  rcases h2 with ⟨h2, rfl⟩ | h2
  · cases h2
  · cases h2
    exact ⟨a, b, hd.int, hd'.int, q⟩
theorem rgV_rep {K : PySem.W.Frag} {H : Hp} {P : Addr → Prop} (a b : Int) : RepL K H P (rgV a b) (rngL a b) := by
  have e1 : rgV a b = ((List.range (b - a).toNat).map fun i => a + (i : Nat)).map V.int := by simp [rgV, List.map_map, Function.comp_def]
  have e2 : rngL a b = ((List.range (b - a).toNat).map fun i => a + (i : Nat)).map PyData.int := by simp [rngL, List.map_map, Function.comp_def]
  rw [e1, e2]
  exact repL_ints _
theorem rg_ok {a b : Int} (h : rngOk a b = true) : RgOk a b := by
  obtain ⟨h1, h2, h3, h4⟩ := rngOk_b h
  exact ⟨by omega, by omega, by omega, by omega, by omega⟩
theorem prg_mono {es : List E} {σ : L2.St} {H : Hp} {Q Q' : Int → Int → Hp → Prop} (w : ∀ i j H', Q i j H' → Q' i j H') (h : tRg X C W es σ H Q) : tRg X C W es σ H Q' := by
  obtain ⟨P0, α, ρ, f, r⟩ := h
  exact ⟨P0, α, ρ, f, r.mono fun xs ρ1 α1 H1 _ _ ⟨ds, a, b, h1, h2, h3⟩ => ⟨ds, a, b, h1, h2, w _ _ _ h3⟩⟩
theorem rng_bi {b : Bi} {es : List E} {m : List D → D} {P0 : Addr → Prop} {α : Am} {ρ : Ev} {σ : L2.St} {H : Hp} {ok : D → Ev → Am → Hp → Prop}
    (hb : ∀ ds v, biD b ds = .ok v → ∃ i j, (ds = [.int j] ∧ i = 0 ∨ ds = [.int i, .int j]) ∧ rngOk i j = true ∧ v = m (rngL i j)) (f : FI X.K P0 α ρ σ H) (r : Run W X.K X.mg P0 σ α H (evE C (.bi b es) ρ) ok) :
    tRg X C W es σ H fun i j H1 => ∃ α1 ρ1, rngOk i j = true ∧ FI X.K P0 α1 ρ1 σ H1 ∧ Ex1 α H α1 H1 ∧ Run W X.K X.mg P0 σ α1 H1 (.ok (m (rngL i j)) ρ1) ok := by
  rw [evE] at r
  refine ⟨P0, α, ρ, f, (Run.bd r).mono fun xs ρ1 α1 H1 f1 e1 r1 => ?_⟩
  obtain ⟨ds, h1, r2⟩ := withA_run r1
  obtain ⟨v, h2, r3⟩ := Run.lift r2
  obtain ⟨i, j, h3, h4, rfl⟩ := hb ds v h2
  exact ⟨ds, i, j, h1, h3, α1, ρ1, h4, f1, e1, r3⟩
theorem lrng_inv (ds : List D) (v : D) (h : biD .lrng ds = .ok v) : ∃ i j, (ds = [.int j] ∧ i = 0 ∨ ds = [.int i, .int j]) ∧ rngOk i j = true ∧ v = .list (rngL i j) := by
  rcases ds with _ | ⟨d, _ | ⟨d2, _ | ⟨d3, r⟩⟩⟩
  · cases h
  · cases d <;> simp only [biD] at h <;> try (cases h; done)
    split at h
    · rename_i j c
      cases h
      exact ⟨0, j, .inl ⟨rfl, rfl⟩, c, rfl⟩
    · cases h
  · cases d <;> cases d2 <;> simp only [biD] at h <;> try (cases h; done)
    split at h
    · rename_i i j c
      cases h
      exact ⟨i, j, .inr rfl, c, rfl⟩
    · cases h
  · cases d <;> cases d2 <;> simp [biD] at h
theorem trng_inv (ds : List D) (v : D) (h : biD .trng ds = .ok v) : ∃ i j, (ds = [.int j] ∧ i = 0 ∨ ds = [.int i, .int j]) ∧ rngOk i j = true ∧ v = .tuple (rngL i j) := by
  rcases ds with _ | ⟨d, _ | ⟨d2, _ | ⟨d3, r⟩⟩⟩
  · cases h
  · cases d <;> simp only [biD] at h <;> try (cases h; done)
    split at h
    · rename_i j c
      cases h
      exact ⟨0, j, .inl ⟨rfl, rfl⟩, c, rfl⟩
    · cases h
  · cases d <;> cases d2 <;> simp only [biD] at h <;> try (cases h; done)
    split at h
    · rename_i i j c
      cases h
      exact ⟨i, j, .inr rfl, c, rfl⟩
    · cases h
  · cases d <;> cases d2 <;> simp [biD] at h
theorem sE_lrng {es : List E} {q : Expr} {x : Str} {p pos : Pos} {fr : Bool} (o : Okx X C defs W S k) (hx : glB S "list" x = true) (hn : nonStar q = true) (hq : PRg X q (tRg X C W es)) :
    PE X (.Call (.Name x p) [q] [] pos) (tE X C W fr (.bi .lrng es)) := by
  obtain ⟨rfl, g1, d1⟩ := gl_of o hx
  refine pe_by (pe_listRg o.calm g1 (o.tb.bt _ (by decide)) hq (star_cons hn)) ?_
  rintro σ H Q kf ⟨P0, α, ρ, f, r⟩
  refine prg_mono ?_ (rng_bi lrng_inv f r)
  rintro i j H1 ⟨α1, ρ1, c, f1, x1, r1⟩
  exact ⟨rg_ok c, fun p hp kf2 => r1.at (f1.alloc (Al.upd hp)) (.al (Al.upd hp)) _ (okV_new (x1.nn hp) f1 hp kf2 (rgV_rep i j))⟩
theorem sE_trng {es : List E} {q : Expr} {x : Str} {p pos : Pos} {fr : Bool} (o : Okx X C defs W S k) (hx : glB S "tuple" x = true) (hn : nonStar q = true) (hq : PRg X q (tRg X C W es)) :
    PE X (.Call (.Name x p) [q] [] pos) (tE X C W fr (.bi .trng es)) := by
  obtain ⟨rfl, g1, d1⟩ := gl_of o hx
  refine pe_by (pe_tupRg o.calm g1 (o.tb.bt _ (by decide)) hq (star_cons hn)) ?_
  rintro σ H Q kf ⟨P0, α, ρ, f, r⟩
  refine prg_mono ?_ (rng_bi trng_inv f r)
  rintro i j H1 ⟨α1, ρ1, c, f1, x1, r1⟩
  exact ⟨rg_ok c, fun p hp kf2 => r1.at (f1.alloc (Al.upd hp)) (.al (Al.upd hp)) _ (OkV.flat rfl (.tup (.of upd_same) (np_of f1.pu hp) (rgV_rep i j)))⟩
/-! ### pop -/
theorem seqIx_of {n : Nat} {i : Int} {m : Nat} (h : ixN n i = some m) : seqIndex? i n = some m := by
  unfold ixN at h
  unfold seqIndex?
  split at h
  · split at h
    · cases h
      rename_i h1 h2
      have h3 : ¬ i < 0 := by omega
      simp [h3, h1, h2]
    · cases h
  · split at h
    · cases h
      rename_i h1 h2
      have h3 : i < 0 := by omega
      have h4 : 0 ≤ i + (n : Int) := by omega
      simp [h3, h4]
      omega
    · cases h
theorem ixN_small {n : Nat} {i : Int} {m : Nat} (hn : n ≤ sizeLine) (h : ixN n i = some m) : -(2 ^ 63) ≤ i ∧ i < 2 ^ 63 := by
  rw [sizeLine_eq] at hn
  unfold ixN at h
  split at h
  · split at h
    · cases h
      exact ⟨by omega, by omega⟩
    · cases h
  · split at h
    · cases h
      exact ⟨by omega, by omega⟩
    · cases h
/-- the receiver is an own list -/
theorem own_recv {i : Nat} {P0 : Addr → Prop} {α : Am} {ρ : Ev} {σ : L2.St} {H : Hp} (f : FI X.K P0 α ρ σ H) (h : isOw ρ i = true) : ∃ a d, ρ[i]? = some (.ow d) ∧ α i = some a ∧ σ[i]? = some (some (.ref a)) ∧ Hol X.K H (PU P0 α) a d := by
  unfold isOw at h
  split at h
  · rename_i d e
    obtain ⟨a, h1, h2, h3⟩ := f.ow i d e
    exact ⟨a, d, e, h1, h2, h3⟩
  · cases h
theorem own_later {i : Nat} {P0 : Addr → Prop} {α' : Am} {ρ' : Ev} {σ : L2.St} {H' : Hp} {a : Addr} {d : D} (e : σ[i]? = some (some (.ref a))) (f : FI X.K P0 α' ρ' σ H') (h : ρ'[i]? = some (.ow d)) : α' i = some a ∧ Hol X.K H' (PU P0 α') a d := by
  obtain ⟨b, h1, h2, h3⟩ := f.ow i d h
  rw [e] at h2
  cases h2
  exact ⟨h1, h3⟩
theorem pop_run {i j : Nat} {P0 : Addr → Prop} {α : Am} {ρ : Ev} {σ : L2.St} {H : Hp} {a : Addr} {xs : List D} {vs : List V} {Q : VK} {fr : Bool} {Hs : Hp} (f : FI X.K P0 α ρ σ H) (ha : α i = some a) (hH : H a = some (.lst vs)) (r : RepL X.K H (PU P0 α) vs xs)
    (run : Run W X.K X.mg P0 σ α H (popAt xs j i ρ) fun d ρ' α' H' => ∀ u, OkV X.K P0 false Hs α' ρ' σ H' u d → Q u H') : ∃ y, vs[j]? = some y ∧ Q y (upd H a (.lst (vs.eraseIdx j))) := by
  unfold popAt at run
  cases e : xs[j]? with
  | none => rw [e] at run; exact run.elim
  | some d =>
    rw [e] at run
    obtain ⟨y, h1, h2⟩ := r.get e
    refine ⟨y, h1, ?_⟩
    have pa : PU P0 α a := .inr ⟨i, ha⟩
    have k : ∀ b o, b ≠ a → H b = some o → upd H a (.lst (vs.eraseIdx j)) b = some o := fun b o n q => by rw [upd_ne n]; exact q
    have ks : ∀ b o, ¬ PU P0 α b → H b = some o → upd H a (.lst (vs.eraseIdx j)) b = some o := fun b o n q => k b o (fun z => n (z ▸ pa)) q
    exact run.at (f.turn ha k ⟨_, _, rfl, upd_same, RepL.imp ks (fun _ _ n _ => n) _ _ (r.eraseIdx j)⟩) (.turn ha k ⟨_, upd_same⟩) y (OkV.of (Rep.imp ks (fun _ _ n _ => n) _ _ h2))
theorem recv_bor {i : Nat} {x : Str} {pos : Pos} (o : Okx X C defs W S k) (h : visB S i x = true) : PE X (.Name x pos) (tVar i) := by
  obtain ⟨h1, h2, h3, h4⟩ := vis_of o h
  exact pe_var h1 h2 h3 h4
theorem sE_pop0 {i : Nat} {x : Str} {p apos cpos : Pos} (o : Okx X C defs W S k) (h : visB S i x = true) (hline : (apos.endLine == cpos.line) = true) : PE X (.Call (.Attribute (.Name x p) ("pop" : Str) apos) [] [] cpos) (tE X C W false (.pop i [])) := by
  refine pe_by (pe_bm0 (r := rPop) F.plainAttrs_list F.slot_list_pop F.type_list_pop mt_pop (recv_bor o h) (by rfl) hline) ?_
  rintro σ H Q kf ⟨P0, α, ρ, f, r⟩
  rw [evE] at r
  cases ho : isOw ρ i with
  | false => rw [ho] at r; exact r.elim
  | true =>
    rw [ho, evEs_nil] at r
    obtain ⟨a, d, e1, e2, e3, xs, ds, rfl, e5, e6⟩ := own_recv f ho
    have r : Run W X.K X.mg P0 σ α H (match ρ[i]? with
      | some (.ow (.list xs)) => popAt xs (xs.length - 1) i ρ
      | _ => .er "pop: not owned") _ := r
    rw [e1] at r
    have r : Run W X.K X.mg P0 σ α H (popAt ds (ds.length - 1) i ρ) _ := r
    refine ⟨.ref a, e3, .inl ⟨rfl, xs, .inl (.inl e5)⟩, ?_⟩
    rw [← e6.length] at r
    obtain ⟨y, h1, h2⟩ := pop_run (fr := false) f e2 e5 e6 r
    refine ⟨a, xs, y, rfl, rfl, e5, h1, fun _ => ?_⟩
    rw [show xs.dropLast = xs.eraseIdx (xs.length - 1) by rw [List.eraseIdx_length_sub_one]]
    exact h2
theorem bd_bd {α β γ : Type} {r : R α} {f : α → Ev → R β} {g : β → Ev → R γ} : (r.bd f).bd g = r.bd fun a ρ => (f a ρ).bd g := by cases r <;> rfl
theorem pe_kf {p : Expr} {t : TE} (h : PE X p t) : PE X p fun σ H Q => t σ H fun u H' => KF X.K H' → Q u H' := pe_by h fun _ _ _ _ h => h
theorem sE_pop1 {i : Nat} {x : Str} {p apos cpos : Pos} {e : E} {q : Expr} (o : Okx X C defs W S k) (h : visB S i x = true) (hline : (apos.endLine == cpos.line) = true) (hn : nonStar q = true) (he : PE X q (tE X C W false e)) : PE X (.Call (.Attribute (.Name x p) ("pop" : Str) apos) [q] [] cpos) (tE X C W false (.pop i [e])) := by
  refine pe_by (pe_bm (r := rPopAt) F.plainAttrs_list F.slot_list_pop F.type_list_pop mt_popAt (recv_bor o h) (pa_cons (pe_kf he) pa_nil (star_cons hn)) (by rfl) (by rw [star_cons hn]; rfl) hline (star_cons hn) rfl) ?_
  rintro σ H Q kf ⟨P0, α, ρ, f, r⟩
  rw [evE] at r
  cases ho : isOw ρ i with
  | false => rw [ho] at r; exact r.elim
  | true =>
    rw [ho, evEs_one] at r
    obtain ⟨a, d, e1, e2, e3, xs, ds, rfl, e5, e6⟩ := own_recv f ho
    simp only [Bool.not_true, Bool.false_eq_true, if_false, bd_bd] at r
    refine ⟨.ref a, e3, .inl ⟨rfl, xs, .inl (.inl e5)⟩, P0, α, ρ, f, (Run.bd r).mono fun d1 ρ1 α1 H1 f1 _ r1 u hu kf1 => ?_⟩
    cases e7 : ρ1[i]? with
    | none => simp only [R.bd, e7] at r1; exact r1.elim
    | some s =>
      cases s with
      | un => simp only [R.bd, e7] at r1; exact r1.elim
      | sh _ => simp only [R.bd, e7] at r1; exact r1.elim
      | xn _ _ => simp only [R.bd, e7] at r1; exact r1.elim
      | ow dl =>
        obtain ⟨g1, ys, es, rfl, g3, g4⟩ := own_later e3 f1 e7
        simp only [R.bd, e7] at r1
        have hu := OkV.rep hu
        cases d1 <;> try exact r1.elim
        cases hu
        rename_i j
        cases e8 : ixN es.length j with
        | none => simp only [e8] at r1; exact r1.elim
        | some m =>
          simp only [e8] at r1
          obtain ⟨y, h1, h2⟩ := pop_run (fr := false) f1 g1 g3 g4 r1
          rw [← g4.length] at e8
          have hz := ixN_small (kf1.ll a ys (.inl g3)) e8
          exact ⟨a, ys, j, m, y, rfl, rfl, g3, hz.1, hz.2, seqIx_of e8, h1, fun _ => h2⟩
/-! ### zip -/
theorem pair_rep {K : PySem.W.Frag} {H : Hp} {P : Addr → Prop} {T : Addr} {x y : V} {d e : D} (hT : H T = none) (hp : ∀ a, P a → ∃ o, H a = some o) (r : Rep K H P x d) (q : Rep K H P y e) : Al H (upd H T (.tup [x, y])) ∧ Rep K (upd H T (.tup [x, y])) P (.ref T) (.tuple [d, e]) :=
  ⟨Al.upd hT, .tup (.of upd_same) (np_of hp hT) (.cons (r.al (Al.upd hT)) (.cons (q.al (Al.upd hT)) .nil))⟩
theorem zip_at {xs ys : List D} {j : Nat} {d : D} (h : ((xs.zip ys).map fun p => PyData.tuple [p.1, p.2])[j]? = some d) : ∃ x y, xs[j]? = some x ∧ ys[j]? = some y ∧ d = .tuple [x, y] := by
  rw [List.getElem?_map, Option.map_eq_some_iff] at h
  obtain ⟨p, h1, rfl⟩ := h
  obtain ⟨h2, h3⟩ := List.getElem?_zip_eq_some.mp h1
  exact ⟨p.1, p.2, h2, h3, rfl⟩
theorem pi_zipI {p1 p2 : Expr} {x : Str} {p pos tpos : Pos} {elts : List Expr} {kk : Nat} {es : List E} (o : Okx X C defs W S k) (hx : glB S "zip" x = true) (na : nonStar p1 = true) (nb : nonStar p2 = true) (hl : es.length = 2) (he : PA X [p1, p2] (tAs X C W es)) : PI X (.Tuple elts kk tpos) (.Call (.Name x p) [p1, p2] [] pos) (tI X C W .zip es) := by
  obtain ⟨rfl, hg, d1⟩ := gl_of o hx
  refine pi_by (RZ.pi_zipA hg (o.tb.bt _ (by decide)) he (star_cons na) (star_any (by simp [nb]))) ?_
  rintro σ H R kf ⟨P0, α, ρ, f, r⟩
  refine ⟨P0, α, ρ, f, r.monoE fun xs ρ1 α1 H1 eq f1 _ ⟨ds, items, h1, h2, h3⟩ us hu => ?_⟩
  have hc := hu.now f1 h1
  have hn : ds.length = es.length := (rsAll_len h1).trans (evAs_len eq)
  rcases ds with _ | ⟨d, _ | ⟨d2, _ | ⟨d3, r⟩⟩⟩
  · cases h2
  · rw [hl] at hn; cases hn
  · obtain ⟨u, w, rfl, hd, hw⟩ := hc.two
    cases d <;> cases d2 <;> simp only [itemsD] at h2 <;> try (cases h2; done)
    · rename_i xs ys
      cases h2
      obtain ⟨a, vs, rfl, g1, r1⟩ := hd.lst
      obtain ⟨b, ws, rfl, g2, r2⟩ := hw.lst
      refine ⟨a, b, vs, ws, rfl, .inl ⟨.inl g1, .inl g2, h3 _ _ hu fun H2 P q hp => ?_⟩⟩
      obtain ⟨_, _, e1, q1, q2⟩ := q.two
      cases e1
      obtain ⟨_, vs, e1, g1, r1⟩ := q1.lst
      cases e1
      obtain ⟨_, ws, e1, g2, r2⟩ := q2.lst
      cases e1
      refine ⟨fun j d e => ?_, fun j hj => ⟨vs, ws, .inl g1, .inl g2, ?_⟩⟩
      · obtain ⟨x, y, e1, e2, rfl⟩ := zip_at e
        obtain ⟨v, v1, v2⟩ := r1.get e1
        obtain ⟨v', w1, w2⟩ := r2.get e2
        refine ⟨⟨vs, ws, v, v', .inl g1, .inl g2, v1, w1⟩, ?_⟩
        rintro z H' ⟨T, x', y', rfl, hT, rfl, z1, z2⟩
        have z1 := z1 vs (.inl g1)
        rw [v1] at z1
        cases z1
        have z2 := z2 ws (.inl g2)
        rw [w1] at z2
        cases z2
        exact pair_rep hT hp v2 w2
      · rw [r1.length, r2.length]
        rw [List.length_map, List.length_zip] at hj
        omega
    · rename_i xs ys
      cases h2
      obtain ⟨a, vs, rfl, g1, _, r1⟩ := hd.tup
      obtain ⟨b, ws, rfl, g2, _, r2⟩ := hw.tup
      refine ⟨a, b, vs, ws, rfl, .inr ⟨g1, g2, h3 _ _ hu fun H2 P q hp => ?_⟩⟩
      obtain ⟨_, _, e1, q1, q2⟩ := q.two
      cases e1
      obtain ⟨_, vs, e1, g1, _, r1⟩ := q1.tup
      cases e1
      obtain ⟨_, ws, e1, g2, _, r2⟩ := q2.tup
      cases e1
      refine ⟨fun j d e => ?_, fun j hj => ⟨vs, ws, g1, g2, ?_⟩⟩
      · obtain ⟨x, y, e1, e2, rfl⟩ := zip_at e
        obtain ⟨v, v1, v2⟩ := r1.get e1
        obtain ⟨v', w1, w2⟩ := r2.get e2
        refine ⟨⟨vs, ws, v, v', g1, g2, v1, w1⟩, ?_⟩
        rintro z H' ⟨T, x', y', rfl, hT, rfl, z1, z2⟩
        have z1 := z1 vs g1
        rw [v1] at z1
        cases z1
        have z2 := z2 ws g2
        rw [w1] at z2
        cases z2
        exact pair_rep hT hp v2 w2
      · rw [r1.length, r2.length]
        rw [List.length_map, List.length_zip] at hj
        omega
  · cases d <;> cases d2 <;> simp [itemsD] at h2
end
end JK

end
section
set_option Elab.async false
set_option linter.all false
set_option autoImplicit false
set_option maxRecDepth 100000
set_option maxHeartbeats 2000000
/-! JkEnum: enumerate over a list or a tuple. -/
namespace JK
open PySem PySem.Spec L2 PyProof.Rows
section
/-- enumerate(v) makes its two cells, whatever v begins with -/
theorem enum_make {v : Value} {ob : Obj} {G : Heap → Prop} (B : Begins v ob G) : Meets (Builtin.«enumerate.__new__» ⟨[.type "enumerate", v], []⟩) (fun _ R s => G s.heap ∧ R (.ok (.ret (.ref (s.heap.push ob).objs.size)))
      { s with heap := (s.heap.push ob).push { cls := .type "enumerate", data := .fields #[.none, .bool false, .ref s.heap.objs.size, rawInt 0, .none, .none] } }) := .of_wp fun pr wo Ar R st0 hh => by
  obtain ⟨h0, g0, d0, t0, o0⟩ := st0; obtain ⟨gv, hh⟩ := hh; have hsub := sub_enumerate
  have go : ∀ {A1 : Around} {E1 : Value → Shared → Prop} {Q1 : Value → Shared → Prop}, Q1 (.ref h0.objs.size) ⟨h0.push ob, g0, d0, t0, o0⟩ → wpAny (model pr wo) A1 (pyIter v) Q1 E1 ⟨h0, g0, d0, t0, o0⟩ := fun q => B.iter pr wo _ _ ⟨h0, g0, d0, t0, o0⟩ _ gv q
  wp_walk using go
  refine wpAny_stack_any fun z => wpAny_pure ?_; split
  · rename_i cc _ _ _ _ _; cases (cc == Value.type "enumerate") <;> (wp_walk using go; exact ⟨_, rfl, hh⟩)
  · (wp_walk using go; exact ⟨_, rfl, hh⟩)
variable {prog : Program} {w : World} {A : Around} {E : Value → Shared → Prop} {s : Shared}
theorem enum_call {v : Value} {ob : Obj} {G : Heap → Prop} {Q : Value → Shared → Prop} (B : Begins v ob G) (gv : G s.heap)
    (hq : ∀ h1, IsEnum h1 (s.heap.objs.size + 1) s.heap.objs.size 0 .none → h1.get? s.heap.objs.size = some ob → h1.objs.size = s.heap.objs.size + 2 → (∀ b o, s.heap.get? b = some o → h1.get? b = some o) → Q (.ref (s.heap.objs.size + 1)) { s with heap := h1 }) :
    wpAny (model prog w) A (call (.type "enumerate") [v]) Q E s := by
  refine callType_new F.called_enumerate (by decide) (F.typeCall_enumerate_1 _) (F.newCall_enumerate_1 _) (fun ob2 => F.args_object_init_2 ob2 _) F.entry_enumerate_new (enum_make B) ⟨gv, ?_⟩
  have z : (s.heap.push ob).objs.size = s.heap.objs.size + 1 := Heap.size_push ..
  show _ ∧ _; rw [z]
  have en : IsEnum ((s.heap.push ob).push { cls := .type "enumerate", data := .fields #[.none, .bool false, .ref s.heap.objs.size, rawInt 0, .none, .none] }) (s.heap.objs.size + 1) s.heap.objs.size 0 .none := by
    have y := Heap.get?_push_size (s.heap.push ob) (o := { cls := .type "enumerate", data := .fields #[.none, .bool false, .ref s.heap.objs.size, rawInt 0, .none, .none] }) rfl
    rw [z] at y; exact y
  exact ⟨⟨_, en, rfl⟩, hq _ en (Heap.get?_push_of_some _ (Heap.get?_push_size _ B.free)) (by rw [Heap.size_push, z]) fun b o x => Heap.get?_push_of_some _ (Heap.get?_push_of_some _ x)⟩
theorem enum_endT {e it a : Addr} {i : Nat} {c : Int} {items : Array Value} {old : Value} {Q : Option Value → Shared → Prop} (hd : A.in1.handled = none) (en : IsEnum s.heap e it c old) (ti : s.heap.IsTupleIter it a i) (tp : s.heap.IsTuple a items) (hn : items[i]? = none)
    (hq : ∀ h1, Heap.ExtBut it s.heap h1 → Q none { s with heap := h1 }) : wpAny (model prog w) A (pyNext (.ref e)) Q E s := by
  have ty : s.TypeIs (.ref e) "enumerate" := ⟨_, en, rfl⟩
  unfold pyNext; refine wpAny_bind (wpAny_attempt (wpAny_callSpecial?_slot (name := Str.ofString "__next__") ty F.slot_enumerate_next (wpAny_call_entry F.slot_enumerate_next ty F.entry_enumerate_next ?_ (F.args_enumerate_next_1 _))))
  show wpAny _ _ (field (.ref e) 2 >>= _) _ _ _; refine wpAny_bind (wpAny_field en rfl (x := .ref it) rfl ?_)
  refine wpAny_bind (wpAny_nextOf_tuple_end hd ti tp hn fun h1 x eb ⟨o, ho, hc⟩ => ?_)
  exact wpAny_bind (wpAny_isInstance (T := "StopIteration") (b := true) ⟨o, ho, hc⟩ isSubtype_stop (wpAny_pure (hq _ eb)))
end
/-- the tuple at a as it stands, each item in a new pair -/
def ItEt (K : PySem.W.Frag) (a : Addr) : It :=
  ⟨fun i H => ∃ (xs : List V) (x : V), SqT K H a xs ∧ xs[i]? = some x, fun i H v G => ∃ T x, v = .ref T ∧ H T = none ∧ G = upd H T (.tup [.int (i : Nat), x]) ∧ ∀ xs, SqT K H a xs → xs[i]? = some x, fun i H => ∃ xs : List V, SqT K H a xs ∧ xs.length ≤ i⟩
theorem turn_enT {P : Program} {w : World} {K : PySem.W.Frag} {elts : List Expr} {kk : Nat} {tpos : Pos} (a e it : Addr) :
    Turn P w K (.Tuple elts kk tpos) (ItEt K a) [e, it] e (fun i h => (∃ old, IsEnum h e it ((i : Nat) : Int) old) ∧ h.IsTupleIter it a i ∧ e ≠ it) where
  mem := List.mem_cons_self ..
  obj := fun i h st b hb => by
    rcases List.mem_cons.mp hb with rfl | hb
    · obtain ⟨⟨old, q⟩, _⟩ := st; exact ⟨_, q, fun v z => nomatch z⟩
    · have hb := List.mem_singleton.mp hb; subst hb; obtain ⟨_, ⟨o, q1, _, q2⟩, _⟩ := st; exact ⟨o, q1, fun v z => by rw [q2] at z; cases z⟩
  keep := fun i h g st kp => ⟨st.1.imp fun old q => kp e (by simp) _ q, st.2.1.at fun o q => kp it (by simp) o q, st.2.2⟩
  item := by
    intro X hP hw hK hc i pins s σ H E I hf st hg
    subst hP; subst hw; subst hK
    obtain ⟨⟨old, en⟩, ti, ne⟩ := st; obtain ⟨xs, x, sq, gx⟩ := hg; obtain ⟨its, rv, pt, _⟩ := I.tuple sq; obtain ⟨u, gu, ru⟩ := rv.get gx
    have tp : s.heap.IsTuple a its.toArray := pt
    have le : e < s.heap.objs.size := Heap.lt_size en; have li : it < s.heap.objs.size := by obtain ⟨_, q, _⟩ := ti; exact Heap.lt_size q
    have ai : a ≠ it := fun z => by
      obtain ⟨o1, h1, c1, d1⟩ := ti; obtain ⟨o2, h2, c2, d2⟩ := tp
      rw [z, h1] at h2; cases h2; rw [c1] at c2; exact absurd c2 (by decide)
    have ae : a ≠ e := fun z => by
      obtain ⟨o2, h2, c2, d2⟩ := tp
      have en' : s.heap.get? e = some _ := en
      rw [z, en'] at h2; cases h2; have c2 : Value.type "enumerate" = Value.type "tuple" := c2; exact absurd c2 (by decide)
    refine wpAny_pyNext_enum_itemC (Draws.tuple (A := X.A.in1) (I.ok.hd hc) it a ai its.toArray) en ⟨ti, tp⟩ (by simpa using (List.getElem?_eq_some_iff.mp gu).1) ne (by simp; exact ⟨ne, fun z => ae z.symm⟩) fun x' h1 tk px ho st' hT hz kp => ?_
    have ex : x' = u := by
      have px : its.toArray[i]? = some x' := px
      rw [List.getElem?_toArray, gu] at px; cases px; rfl
    subst ex
    refine ⟨_, rfl, wpAny_letOwnedTupleGo_enum (s := { s with heap := h1, toks := tk + 1 }) ho fun h2 he2 sb => ?_⟩
    have T2 : h2.get? s.heap.objs.size = some { cls := .type "tuple", data := .seq #[.int i tk, x'] } := (sb.2 _ (Nat.ne_of_gt le)).trans hT
    have nw : ObjOk X.prog X.w (upd H s.heap.objs.size (.tup [.int (i : Nat), x])) h2 s.heap.objs.size (.tup [.int (i : Nat), x]) := ⟨by show 2 ≤ sizeLine; decide, [.int i tk, x'], .cons ⟨_, rfl⟩ (.cons ru .nil), ⟨_, T2, rfl, _, rfl⟩⟩
    have J : Inv X pins σ (upd H s.heap.objs.size (.tup [.int (i : Nat), x])) { s with heap := h2, toks := tk + 1 } :=
      I.turnedNew (ch := [e, it]) (fun b ob nb q => (sb.2 b (fun z => nb (by simp [z]))).trans (kp b ob (fun z => nb (by simp [z])) (fun z => nb (by simp [z])) q)) hf (Nat.le_refl _) nw
    refine ⟨.ref s.heap.objs.size, _, J, rfl, ⟨_, x, rfl, I.hok.fresh (Nat.le_refl _), rfl, fun ys hy => by rw [I.tuple_inj hy sq]; exact gx⟩, ⟨⟨x', ?_⟩, st'.1.at fun o q => (sb.2 it (Ne.symm ne)).trans q, ne⟩, fun b hb => ?_⟩
    · rw [show ((i + 1 : Nat) : Int) = (i : Int) + 1 from by omega]; exact he2
    · have lb : b < s.heap.objs.size := by
        rcases List.mem_cons.mp hb with rfl | hb
        · exact le
        · rw [List.mem_singleton.mp hb]; exact li
      rw [upd_ne (Nat.ne_of_lt lb)]; exact (hf b hb).1
  done := by
    intro X hP hw hK hc i pins s σ H E I hf st hg
    subst hP; subst hw; subst hK
    obtain ⟨⟨old, en⟩, ti, ne⟩ := st; obtain ⟨xs, sq, gl⟩ := hg; obtain ⟨its, rv, pt, _⟩ := I.tuple sq
    have tp : s.heap.IsTuple a its.toArray := pt
    obtain ⟨k0, k1, k2, k3, k4, k5⟩ := hf it (by simp)
    have ai : a ≠ it := fun z => by
      obtain ⟨o1, h1, c1, d1⟩ := ti; obtain ⟨o2, h2, c2, d2⟩ := tp
      rw [z, h1] at h2; cases h2; rw [c1] at c2; exact absurd c2 (by decide)
    have hn : its.toArray[i]? = none := by have := rv.length; simp; omega
    exact enum_endT (I.ok.hd hc) en ti tp hn fun h1 eb => ⟨rfl, I.turned (t' := s.toks) (fun b o nb q => eb b o nb q) k0 k1 k3 k4 k5⟩
  self := fun Ar i s0 Q E st h => by obtain ⟨⟨_, q⟩, _⟩ := st; exact wpAny_pyIter_enum q h
def iEnB (K : PySem.W.Frag) (ta : TA) : TI := fun σ H R => ta σ H fun vs H1 => ∃ a, vs = [.ref a] ∧ ((∃ xs : List V, SqL K H1 a xs ∧ R (Ite K a) H1) ∨ (∃ xs : List V, SqT K H1 a xs ∧ R (ItEt K a) H1))
theorem pi_enB {X : Cx} {e : Expr} {ta : TA} {p pos tpos : Pos} {elts : List Expr} {kk : Nat} (hg : Gl X "enumerate") (hm : X.mg "enumerate" = none) (ha : PA X [e] ta) (hs : starEach [e] X.env = [(false, eval e X.env)]) : PI X (.Tuple elts kk tpos) (.Call (.Name "enumerate" p) [e] [] pos) (iEnB X.K ta) := by
  refine ⟨fun pins s σ H R I hh => Call_ (ld_blt I hg hm boot_enumerate (PyProof.Rows.callWith_type1 (thn (ha.run pos pins s σ H _ I hh) fun us s1 ⟨vs, H1, J, r1, a, ev, q⟩ => ?_) hs rfl))⟩
  subst ev
  cases r1 with
  | cons r rr =>
    cases rr; cases r
    have two : ∀ b ∈ [s1.heap.objs.size + 1, s1.heap.objs.size], FpOk X pins H1 b := fun b hb => by
      have lb : s1.heap.objs.size ≤ b := by
        rcases List.mem_cons.mp hb with z | z
        · omega
        · have := List.mem_singleton.mp z; omega
      exact J.fpOk lb (J.hok.fresh lb)
    rcases q with ⟨xs, sq, q⟩ | ⟨xs, sq, q⟩
    · obtain ⟨its, _, pl, _⟩ := J.list sq
      refine enum_call (begins_list a its.toArray) pl.isList fun h1 en ti hz kp => wpAny_pyIter_enum en ?_
      have K1 : Inv X pins σ H1 { s1 with heap := h1 } := J.kept (t' := s1.toks) kp
      exact ⟨_, [s1.heap.objs.size + 1, s1.heap.objs.size], _, _, H1, rfl, K1, turn_enum a (s1.heap.objs.size + 1) s1.heap.objs.size, ⟨⟨.none, en⟩, ⟨_, ti, rfl, rfl⟩, Nat.succ_ne_self _⟩, two, q⟩
    · obtain ⟨its, _, pl, _⟩ := J.tuple sq
      refine enum_call (begins_tuple a its.toArray) (show s1.heap.IsTuple a its.toArray from pl) fun h1 en ti hz kp => wpAny_pyIter_enum en ?_
      have K1 : Inv X pins σ H1 { s1 with heap := h1 } := J.kept (t' := s1.toks) kp
      exact ⟨_, [s1.heap.objs.size + 1, s1.heap.objs.size], _, _, H1, rfl, K1, turn_enT a (s1.heap.objs.size + 1) s1.heap.objs.size, ⟨⟨.none, en⟩, ⟨_, ti, rfl, rfl⟩, Nat.succ_ne_self _⟩, two, q⟩
theorem enm_at {xs : List D} {j : Nat} {d : D} (h : (xs.zipIdx.map fun p => PyData.tuple [.int p.2, p.1])[j]? = some d) : ∃ x, xs[j]? = some x ∧ d = .tuple [.int j, x] := by
  rw [List.getElem?_map, Option.map_eq_some_iff] at h
  obtain ⟨⟨x, i⟩, h1, rfl⟩ := h
  rw [List.getElem?_zipIdx, Option.map_eq_some_iff] at h1
  obtain ⟨y, h2, e⟩ := h1
  simp only [Nat.zero_add, Prod.mk.injEq] at e
  obtain ⟨rfl, rfl⟩ := e
  exact ⟨_, h2, rfl⟩
section
variable {X : Cx} {C : Cfg} {defs : String → Option Df} {W : WX} {S : Sc} {k : Nat}
theorem pi_enumI {p1 : Expr} {x : Str} {p pos tpos : Pos} {elts : List Expr} {kk : Nat} {es : List E} (o : Okx X C defs W S k) (hx : glB S "enumerate" x = true) (na : nonStar p1 = true) (hl : es.length = 1) (he : PA X [p1] (tAs X C W es)) : PI X (.Tuple elts kk tpos) (.Call (.Name x p) [p1] [] pos) (tI X C W .enm es) := by
  obtain ⟨rfl, hg, d1⟩ := gl_of o hx
  refine pi_by (pi_enB hg (o.tb.bt _ (by decide)) he (star_cons na)) ?_
  rintro σ H R kf ⟨P0, α, ρ, f, r⟩
  refine ⟨P0, α, ρ, f, r.monoE fun xs ρ1 α1 H1 eq f1 _ ⟨ds, items, h1, h2, h3⟩ us hu => ?_⟩
  have hc := hu.now f1 h1
  have hn : ds.length = es.length := (rsAll_len h1).trans (evAs_len eq)
  rcases ds with _ | ⟨d, _ | ⟨d2, r⟩⟩
  · cases h2
  · obtain ⟨u, rfl, hd⟩ := hc.one
    cases d <;> simp only [itemsD] at h2 <;> try (cases h2; done)
    · rename_i xs
      cases h2
      obtain ⟨a, vs, rfl, g1, r1⟩ := hd.lst
      refine ⟨a, rfl, .inl ⟨vs, .inl g1, h3 _ _ hu fun H2 P q hp => ?_⟩⟩
      obtain ⟨_, e1, q1⟩ := q.one
      cases e1
      obtain ⟨_, vs, e1, g1, r1⟩ := q1.lst
      cases e1
      refine ⟨fun j d e => ?_, fun j hj => ⟨vs, .inl g1, ?_⟩⟩
      · obtain ⟨x, e1, rfl⟩ := enm_at e
        obtain ⟨v, v1, v2⟩ := r1.get e1
        refine ⟨⟨vs, v, .inl g1, v1⟩, ?_⟩
        rintro z H' ⟨T, x', rfl, hT, rfl, z1⟩
        have z1 := z1 vs (.inl g1)
        rw [v1] at z1
        cases z1
        exact pair_rep hT hp (.int _) v2
      · rw [List.length_map, List.length_zipIdx] at hj
        rw [r1.length]
        exact hj
    · rename_i xs
      cases h2
      obtain ⟨a, vs, rfl, g1, _, r1⟩ := hd.tup
      refine ⟨a, rfl, .inr ⟨vs, g1, h3 _ _ hu fun H2 P q hp => ?_⟩⟩
      obtain ⟨_, e1, q1⟩ := q.one
      cases e1
      obtain ⟨_, vs, e1, g1, _, r1⟩ := q1.tup
      cases e1
      refine ⟨fun j d e => ?_, fun j hj => ⟨vs, g1, ?_⟩⟩
      · obtain ⟨x, e1, rfl⟩ := enm_at e
        obtain ⟨v, v1, v2⟩ := r1.get e1
        refine ⟨⟨vs, v, g1, v1⟩, ?_⟩
        rintro z H' ⟨T, x', rfl, hT, rfl, z1⟩
        have z1 := z1 vs g1
        rw [v1] at z1
        cases z1
        exact pair_rep hT hp (.int _) v2
      · rw [List.length_map, List.length_zipIdx] at hj
        rw [r1.length]
        exact hj
  · rw [hl] at hn; cases hn
end
end JK

end
section
set_option Elab.async false
set_option linter.all false
set_option autoImplicit false
set_option maxRecDepth 100000
set_option maxHeartbeats 2000000
/-! JkIdx: list.index. -/
namespace JK
open PySem PySem.Spec L2
theorem findIx_at {x : D} : ∀ {xs : List D} {n j : Nat}, findIx x xs n = some j → ∃ (m : Nat) (z : D), j = n + m ∧ xs[m]? = some z ∧ PyData.eqv z x = true ∧ ∀ i y, i < m → xs[i]? = some y → PyData.eqv y x = false
  | [], _, _, h => by cases h
  | y :: r, n, j, h => by
    unfold findIx at h
    split at h
    · rename_i c
      cases h
      exact ⟨0, y, rfl, rfl, c, fun i _ hi => absurd hi (Nat.not_lt_zero _)⟩
    · rename_i c
      obtain ⟨m, z, h1, h2, h3, h4⟩ := findIx_at h
      refine ⟨m + 1, z, by omega, by simpa using h2, h3, fun i w hi hw => ?_⟩
      cases i with
      | zero =>
        cases hw
        simpa using c
      | succ i => exact h4 i w (by omega) (by simpa using hw)
section
variable {X : Cx} {C : Cfg} {defs : String → Option Df} {W : WX} {S : Sc} {k : Nat}
theorem flatV_of {P : Addr → Prop} {K : PySem.W.Frag} {H : Hp} {v : V} {d : D} (r : Rep K H P v d) (h : flatD d = true) : flatV v = true := by
  cases r <;> first | rfl | cases h
theorem flatVs_of {P : Addr → Prop} {K : PySem.W.Frag} {H : Hp} : ∀ {vs : List V} {ds : List D}, RepL K H P vs ds → ds.all flatD = true → vs.all flatV = true
  | _, _, .nil, _ => rfl
  | _, _, .cons r rs, h => by
    rw [List.all_cons] at h ⊢
    obtain ⟨h1, h2⟩ := dec2 h
    rw [flatV_of r h1, flatVs_of rs h2]
    rfl
theorem sE_index {a e : E} {pa q : Expr} {apos cpos : Pos} (o : Okx X C defs W S k) (hline : (apos.endLine == cpos.line) = true) (hn : nonStar q = true) (hb : attributeBase pa ("index" : Str) X.env (eval pa X.env) = eval pa X.env) (ha : PE X pa (tA X C W a)) (hq : PE X q (tA X C W e)) :
    PE X (.Call (.Attribute pa ("index" : Str) apos) [q] [] cpos) (tE X C W false (.me .index a [e])) := by
  refine pe_by (pe_bm (r := rIndex X.K) F.plainAttrs_list F.slot_list_index F.type_list_index mt_index ha (pa_cons (pe_kf hq) pa_nil (star_cons hn)) hb (by rw [star_cons hn]; rfl) hline (star_cons hn) rfl) ?_
  rintro σ H Q kf ⟨P0, α, ρ, f, r⟩
  rw [evE] at r
  refine ⟨P0, α, ρ, f, (Run.bd r).mono fun x ρ1 α1 H1 f1 e1 r1 u hu => ?_⟩
  cases hg : isLA (rs ρ1 x) with
  | false => rw [hg] at r1; exact r1.elim
  | true =>
    rw [hg, evAs_one] at r1
    simp only [if_true, bd_bd] at r1
    obtain ⟨xs, hx⟩ : ∃ xs, rs ρ1 x = some (.list xs) := by
      unfold isLA at hg
      split at hg
      · rename_i xs h
        exact ⟨xs, h⟩
      · cases hg
    obtain ⟨b, vs, rfl, h4, _⟩ := (hu.now f1 hx).lst
    refine ⟨.inl ⟨rfl, vs, .inl h4⟩, P0, α1, ρ1, f1, (Run.bd r1).mono fun y ρ2 α2 H2 f2 e2 r2 w hw kf2 => ?_⟩
    obtain ⟨ds, h1, r3⟩ := withA_run r2
    obtain ⟨d, y2, rfl, hd, he⟩ := two_now f2 e2 hu hw h1
    obtain ⟨v, h2, r5⟩ := Run.lift r3
    cases d <;> simp only [meD] at h2 <;> try (cases h2; done)
    · rename_i ys
      split at h2
      · rename_i c
        obtain ⟨c1, c2⟩ := dec2 c
        split at h2
        · rename_i j hj
          cases h2
          obtain ⟨m, z, rfl, g1, g2, g3⟩ := findIx_at hj
          obtain ⟨b2, vs2, eb, h6, r6⟩ := hd.lst
          cases eb
          obtain ⟨zv, g4, g5⟩ := r6.get g1
          have hew : ∃ P', Rep X.K H2 P' w y2 := ⟨_, he.flat c1⟩
          obtain ⟨P', hew⟩ := hew
          refine ⟨b, vs2, w, m, zv, rfl, rfl, .inl h6, flatV_of hew c1, flatVs_of r6 c2, g4, ?_, ?_, ?_⟩
          · rw [eqV_eqv g5 hew (List.all_eq_true.mp c2 z (List.mem_of_getElem? g1)) c1]
            exact g2
          · intro i zw hi hz
            have hl : i < ys.length := Nat.lt_trans hi (List.getElem?_eq_some_iff.mp g1).1
            obtain ⟨v2, g6, g7⟩ := r6.get (List.getElem?_eq_getElem hl)
            rw [hz] at g6
            cases g6
            rw [eqV_eqv g7 hew (List.all_eq_true.mp c2 _ (List.getElem_mem hl)) c1]
            exact g3 i _ hi (List.getElem?_eq_getElem hl)
          · rw [Nat.zero_add] at r5
            exact fun _ => r5.here f2 (.int m) (OkV.of (.int _))
        · cases h2
      · cases h2
theorem sE_count {a e : E} {pa q : Expr} {apos cpos : Pos} (o : Okx X C defs W S k) (hline : (apos.endLine == cpos.line) = true) (hn : nonStar q = true) (hb : attributeBase pa ("count" : Str) X.env (eval pa X.env) = eval pa X.env) (ha : PE X pa (tA X C W a)) (hq : PE X q (tA X C W e)) :
    PE X (.Call (.Attribute pa ("count" : Str) apos) [q] [] cpos) (tE X C W false (.me .count a [e])) := by
  refine pe_by (pe_bm (r := rCntI X.K) F.plainAttrs_list F.slot_list_count F.type_list_count mt_lcount ha (pa_cons (pe_kf hq) pa_nil (star_cons hn)) hb (by rw [star_cons hn]; rfl) hline (star_cons hn) rfl) ?_
  rintro σ H Q kf ⟨P0, α, ρ, f, r⟩
  rw [evE] at r
  refine ⟨P0, α, ρ, f, (Run.bd r).mono fun x ρ1 α1 H1 f1 e1 r1 u hu => ?_⟩
  cases hg : isLA (rs ρ1 x) with
  | false => rw [hg] at r1; exact r1.elim
  | true =>
    rw [hg, evAs_one] at r1
    simp only [if_true, bd_bd] at r1
    obtain ⟨xs, hx⟩ : ∃ xs, rs ρ1 x = some (.list xs) := by
      unfold isLA at hg
      split at hg
      · rename_i xs h
        exact ⟨xs, h⟩
      · cases hg
    obtain ⟨b, vs, rfl, h4, _⟩ := (hu.now f1 hx).lst
    refine ⟨.inl ⟨rfl, vs, .inl h4⟩, P0, α1, ρ1, f1, (Run.bd r1).mono fun y ρ2 α2 H2 f2 e2 r2 w hw kf2 => ?_⟩
    obtain ⟨ds, h1, r3⟩ := withA_run r2
    obtain ⟨d, y2, rfl, hd, he⟩ := two_now f2 e2 hu hw h1
    obtain ⟨v, h2, r5⟩ := Run.lift r3
    cases d <;> simp only [meD] at h2 <;> try (cases h2; done)
    rename_i ys
    cases y2 <;> simp only [meD] at h2 <;> try (cases h2; done)
    rename_i j
    split at h2
    · rename_i ns hns
      cases h2
      obtain ⟨b2, vs2, eb, h6, r6⟩ := hd.lst
      cases eb
      have hv := r6.intsV hns
      have hw2 := he.int
      subst hw2
      refine ⟨b, ns, j, rfl, rfl, .inl (hv ▸ h6), ?_⟩
      exact fun _ => r5.here f2 (.int _) (OkV.of (.int _))
    · cases h2
end
end JK

end
section
set_option Elab.async false
set_option linter.all false
set_option autoImplicit false
set_option maxRecDepth 100000
set_option maxHeartbeats 1000000
/-! JkCall: calls of the program's defs. -/
namespace JK
open PySem PySem.Spec L2
section
variable {K : PySem.W.Frag} {P0 : Addr → Prop} {α : Am} {ρ ρ' : Ev} {σ : L2.St} {H H' : Hp}
theorem slots0_get {io : List Nat} : ∀ {ds : List D} {n j : Nat}, (slots0 io n ds)[j]? = (ds[j]?).map fun d => if io.contains (n + j) then .ow d else .sh d
  | [], n, j => by simp [slots0]
  | d :: r, n, 0 => by simp [slots0]
  | d :: r, n, j + 1 => by
    rw [slots0, List.getElem?_cons_succ, List.getElem?_cons_succ, slots0_get (n := n + 1) (j := j)]
    rw [show n + 1 + j = n + (j + 1) by omega]
theorem slots0_len {io : List Nat} : ∀ {ds : List D} {n : Nat}, (slots0 io n ds).length = ds.length
  | [], n => rfl
  | d :: r, n => by rw [slots0, List.length_cons, List.length_cons, slots0_len]
/-- the new list p is nobody's -/
theorem FI.fresh {p : Addr} {o : HO} (f : FI K P0 α ρ σ H) (k : Al H H') (hp : H p = none) (hp' : H' p = some o) (hk : ∀ o, K.lookup p = some o → False) : FI K (fun a => P0 a ∨ a = p) α ρ σ H' := by
  have hne : ∀ a xs, (Rd H a (.lst xs) ∨ SqT K H a xs) → a ≠ p := fun a xs h e => by
    subst e
    rcases h with (h | ⟨_, h⟩) | ((h | ⟨_, h⟩) | ⟨_, _, _, h, _⟩)
    · rw [hp] at h; cases h
    · rw [hp] at h; cases h
    · rw [hp] at h; cases h
    · rw [hp] at h; cases h
    · exact hk _ h
  have pp : ∀ a xs, ¬ PU P0 α a → (Rd H a (.lst xs) ∨ SqT K H a xs) → ¬ PU (fun a => P0 a ∨ a = p) α a := fun a xs n h q => by
    rcases q with (q | q) | q
    · exact n (.inl q)
    · exact hne a xs h q
    · exact n (.inr q)
  refine ⟨f.len, fun i d e => ?_, fun i d e => ?_, f.al, f.inj, fun a h => ?_⟩
  · obtain ⟨v, h1, h2⟩ := f.sh i d e
    exact ⟨v, h1, Rep.imp (fun a o _ q => k a o q) pp d v h2⟩
  · obtain ⟨a, h1, h2, xs, ds, h3, h4, h5⟩ := f.ow i d e
    exact ⟨a, h1, h2, xs, ds, h3, k _ _ h4, RepL.imp (fun a o _ q => k a o q) pp ds xs h5⟩
  · rcases h with h | h
    · obtain ⟨⟨o, h1⟩, h2⟩ := f.p0 a h
      exact ⟨⟨o, k _ _ h1⟩, h2⟩
    · subst h
      refine ⟨⟨_, hp'⟩, fun i e => ?_⟩
      obtain ⟨o, q⟩ := f.pu a (.inr ⟨i, e⟩)
      rw [hp] at q
      cases q
/-- several lists have turned -/
theorem FI.turns {ss : List Nat} (f : FI K P0 α ρ σ H) (hl : ρ'.length = ρ.length) (h1 : ∀ j, j ∈ ss → ∃ d a, ρ'[j]? = some (.ow d) ∧ α j = some a ∧ Hol K H' (PU P0 α) a d) (h2 : ∀ j, j ∉ ss → ρ'[j]? = ρ[j]?)
    (k : ∀ b o, (∀ j, j ∈ ss → α j ≠ some b) → H b = some o → H' b = some o) (t : ∀ b, (∃ o, H b = some o) → ∃ o, H' b = some o) : FI K P0 α ρ' σ H' := by
  have kk : ∀ b o, ¬ PU P0 α b → H b = some o → H' b = some o := fun b o n => k b o fun j _ e => n (.inr ⟨j, e⟩)
  refine ⟨by rw [hl]; exact f.len, fun j e h => ?_, fun j e h => ?_, fun j b h => ?_, f.inj, fun b hb => ?_⟩
  · by_cases hj : j ∈ ss
    · obtain ⟨d, a, e1, _⟩ := h1 j hj
      rw [e1] at h
      cases h
    · rw [h2 j hj] at h
      obtain ⟨v, q1, q2⟩ := f.sh j e h
      exact ⟨v, q1, Rep.imp kk (fun _ _ n _ => n) _ _ q2⟩
  · by_cases hj : j ∈ ss
    · obtain ⟨d, a, e1, e2, e3⟩ := h1 j hj
      rw [e1] at h
      cases h
      obtain ⟨d0, z⟩ := f.al j a e2
      obtain ⟨a', q1, q2, _⟩ := f.ow j d0 z
      rw [e2] at q1
      cases q1
      exact ⟨a, e2, q2, e3⟩
    · rw [h2 j hj] at h
      obtain ⟨a, q1, q2, xs, ds, q3, q4, q5⟩ := f.ow j e h
      exact ⟨a, q1, q2, xs, ds, q3, k a _ (fun i hi z => hj (f.inj j i a q1 z ▸ hi)) q4, RepL.imp kk (fun _ _ n _ => n) _ _ q5⟩
  · by_cases hj : j ∈ ss
    · obtain ⟨d, a, e1, _⟩ := h1 j hj
      exact ⟨d, e1⟩
    · rw [h2 j hj]
      exact f.al j b h
  · obtain ⟨q1, q2⟩ := f.p0 b hb
    exact ⟨t b q1, q2⟩
end
/-! ### flat results -/
section
variable {K : PySem.W.Frag} {H : Hp} {P P' : Addr → Prop}
mutual
theorem flat_up (hs : ∀ a xs, SqT K H a xs → ¬ P' a → ¬ P a) : ∀ (d : D) (v : V), flat d = true → Rep K H P' v d → Rep K H P v d
  | .none, _, _, h => by cases h; exact .non
  | .bool b, _, _, h => by cases h; exact .bl b
  | .int i, _, _, h => by cases h; exact .int i
  | .str s, _, _, h => by cases h; exact .str s
  | .list ds, _, e, h => by cases e
  | .tuple ds, _, e, h => by
    cases h with
    | tup h1 h2 h3 => exact .tup h1 (hs _ _ h1 h2) (flats_up hs ds _ e h3)
  | .dict _, _, _, h => by cases h
theorem flats_up (hs : ∀ a xs, SqT K H a xs → ¬ P' a → ¬ P a) : ∀ (ds : List D) (vs : List V), flats ds = true → RepL K H P' vs ds → RepL K H P vs ds
  | [], _, _, h => by cases h; exact .nil
  | d :: ds, _, e, h => by
    cases h with
    | cons h1 h2 =>
      obtain ⟨e1, e2⟩ := dec2 e
      exact .cons (flat_up hs d _ e1 h1) (flats_up hs ds _ e2 h2)
end
end
section
variable {K : PySem.W.Frag} {P0 : Addr → Prop} {α : Am} {σ : L2.St} {H : Hp}
theorem RepCs.get {P : Addr → Prop} : ∀ {us : List V} {ds : List D} {j : Nat} {d : D}, RepCs K H P us ds → ds[j]? = some d → ∃ u, us[j]? = some u ∧ RepC K H P u d
  | _, _, _, _, .nil, e => by simp at e
  | _, _, 0, _, .cons r _, e => by simp at e; subst e; exact ⟨_, rfl, r⟩
  | _, _, j + 1, d, .cons _ t, e => by
    obtain ⟨u, h1, h2⟩ := RepCs.get (j := j) (d := d) t (by simpa using e)
    exact ⟨u, by simpa using h1, h2⟩
theorem RepCs.len {P : Addr → Prop} {us : List V} {ds : List D} (h : RepCs K H P us ds) : us.length = ds.length := by
  induction h with
  | nil => rfl
  | cons _ _ ih => rw [List.length_cons, List.length_cons, ih]
theorem ArgRs.get : ∀ {as : List Arg} {us : List V} {j : Nat} {u : V}, ArgRs K P0 α σ H as us → us[j]? = some u → ∃ x, as[j]? = some x ∧ ArgR K P0 α σ H x u
  | _, _, _, _, .nil, e => by simp at e
  | _, _, 0, _, .cons r _, e => by simp at e; subst e; exact ⟨_, rfl, r⟩
  | _, _, j + 1, u, .cons _ t, e => by
    obtain ⟨x, h1, h2⟩ := ArgRs.get (j := j) (u := u) t (by simpa using e)
    exact ⟨x, by simpa using h1, h2⟩
theorem ArgRs.len {as : List Arg} {us : List V} (h : ArgRs K P0 α σ H as us) : us.length = as.length := by
  induction h with
  | nil => rfl
  | cons _ _ ih => rw [List.length_cons, List.length_cons, ih]
theorem rsAll_get {ρ : Ev} : ∀ {as : List Arg} {ds : List D} {j : Nat} {x : Arg}, rsAll ρ as = some ds → as[j]? = some x → ∃ d, ds[j]? = some d ∧ rs ρ x = some d
  | [], ds, j, x, h, e => by simp at e
  | a :: as, ds, j, x, h, e => by
    simp only [rsAll, Option.bind_eq_some_iff, Option.map_eq_some_iff] at h
    obtain ⟨d, h1, ds', h2, rfl⟩ := h
    cases j with
    | zero => simp at e; subst e; exact ⟨d, rfl, h1⟩
    | succ j => exact rsAll_get (j := j) h2 (by simpa using e)
end
section
variable {K : PySem.W.Frag} {mg : Str → Option Value} {W : WX} {P0 : Addr → Prop} {α : Am} {ρ : Ev} {σ : L2.St} {H : Hp} {df : Df} {m : List D → Rc} {as : List Arg} {us : List V} {ds : List D} {fr : Bool} {Q : VK}
theorem np_len (hn : ∀ ds, ds.length ≠ df.np → ∃ e, m ds = .er e) (h : ∀ e, m ds ≠ .er e) : ds.length = df.np := by
  by_cases c : ds.length = df.np
  · exact c
  · obtain ⟨e, h'⟩ := hn ds c
    exact absurd h' (h e)
theorem plain_frame (f : FI K P0 α ρ σ H) (hu : ArgRs K P0 α σ H as us) (hr : rsAll ρ as = some ds) : FI K (fun a => PU P0 α a ∧ .ref a ∉ us) (fun _ => none) (slots0 [] 0 ds) (us.map some) H := by
  have hc := hu.now f hr
  refine ⟨?_, fun i d e => ?_, fun i d e => ?_, fun i a e => (by cases e), fun i j a e => (by cases e), fun a h => ⟨f.pu a h.1, fun i e => (by cases e)⟩⟩
  · rw [slots0_len, List.length_map, hc.len]
  · rw [slots0_get] at e
    obtain ⟨d', e1, e2⟩ := Option.map_eq_some_iff.mp e
    have e2 : Sl.sh d' = Sl.sh d := e2
    cases e2
    obtain ⟨u, h1, h2⟩ := hc.get e1
    refine ⟨u, by rw [List.getElem?_map, h1]; rfl, ?_⟩
    have su : ∀ a, PU (fun a => PU P0 α a ∧ V.ref a ∉ us) (fun _ => none) a → PU P0 α a ∧ V.ref a ∉ us := fun a q => by
      rcases q with q | ⟨_, q⟩
      · exact q
      · cases q
    cases h2 with
    | cl h2 => exact h2.sub fun a q => (su a q).1
    | top h2 h3 => exact .lst h2 (fun q => (su _ q).2 (List.mem_of_getElem? h1)) (h3.sub fun a q => (su a q).1)
  · rw [slots0_get] at e
    obtain ⟨d', e1, e2⟩ := Option.map_eq_some_iff.mp e
    cases e2
theorem call_plain {Hs : Hp} {αs : Am} (x0 : Ex1 αs Hs α H) (hio : df.io = []) (hn : ∀ ds, ds.length ≠ df.np → ∃ e, m ds = .er e) (f : FI K P0 α ρ σ H) (hu : ArgRs K P0 α σ H as us) (hr : rsAll ρ as = some ds) (hff : fr = true → df.ff = true)
    (run : Run W K mg P0 σ α H (afterC (!as.all isVal) (m ds) ρ) fun d ρ' α' H' => ∀ u, OkV K P0 fr Hs α' ρ' σ H' u d → Q u H') : spM K mg df m us H (fun u H' => KF K H' → Q u H') (WE W σ) := by
  have hc := hu.now f hr
  have hnp : us.length = df.np := by
    rw [hc.len]
    refine np_len hn fun e h => ?_
    rw [h] at run
    exact run
  refine ⟨hnp, fun a => PU P0 α a ∧ .ref a ∉ us, fun _ => none, ds, ?_, fun i a e => (by cases e), ?_⟩
  · rw [hio]
    exact plain_frame f hu hr
  · cases hm : m ds with
    | er e => rw [hm] at run; exact run
    | ex c d ios =>
      rw [hm] at run
      exact fun cls dd H' kp _ x => run α H' cls dd (f.alloc fun a o h => kp.keep a o h fun i e => by cases e) (.al fun a o h => kp.keep a o h fun i e => by cases e) x
    | ok d ios =>
      rw [hm] at run
      intro u H' kp _ hres kf
      have al : Al H H' := fun a o h => kp.keep a o h fun i e => by cases e
      have run : Run W K mg P0 σ α H (if !(!as.all isVal) || flat d then .ok d ρ else .er "a borrowed list may come back") _ := run
      split at run
      · rename_i c
        -- what is shut out in the call is shut out here
        have up : ∀ a xs, (Rd H' a (.lst xs) ∨ SqT K H' a xs) → (as.all isVal = true ∨ SqT K H' a xs) → ¬ (PU P0 α a ∧ V.ref a ∉ us) → ¬ PU P0 α a := fun a xs h hv n q => by
          have hm : V.ref a ∈ us := by
            by_cases z : V.ref a ∈ us
            · exact z
            · exact absurd ⟨q, z⟩ n
          obtain ⟨j, hj⟩ := List.mem_iff_getElem?.mp hm
          obtain ⟨x, hx, hr'⟩ := hu.get hj
          cases x with
          | val d' =>
            have hr' : Rep K H (PU P0 α) (.ref a) d' := hr'
            cases hr' with
            | lst _ h2 _ => exact h2 q
            | tup _ h2 _ => exact h2 q
          | bor i =>
            rcases hv with hv | hv
            · have := (List.all_eq_true.mp hv) _ (List.mem_of_getElem? hx)
              cases this
            · obtain ⟨d', hd, _⟩ := rsAll_get hr hx
              obtain ⟨u', hu', rc⟩ := hc.get hd
              rw [hj] at hu'
              cases hu'
              cases rc with
              | cl rc =>
                cases rc with
                | lst _ h2 _ => exact h2 q
                | tup _ h2 _ => exact h2 q
              | top rc _ =>
                rcases rd_keep (fun o e => al _ o e) rc with rc | ⟨_, rc⟩ <;> rcases hv with (hv | ⟨_, hv⟩) | ⟨_, _, _, hv, _⟩ <;> first
                  | (rw [rc] at hv; cases hv; done)
                  | (have := kf.free _ _ hv; rw [rc] at this; cases this; done)
        have sub : ∀ a, PU (fun a => PU P0 α a ∧ V.ref a ∉ us) (fun _ => none) a → PU P0 α a ∧ V.ref a ∉ us := fun a q => by
          rcases q with q | ⟨_, q⟩
          · exact q
          · cases q
        by_cases hf : df.ff = true
        · unfold ResF at hres
          rw [hf] at hres
          obtain ⟨a, xs, es, rfl, rfl, h1, h2, h3⟩ := hres
          have hk : ∀ o, K.lookup a = some o → False := fun o e => by
            have := kf.free _ _ e
            rw [h2] at this
            cases this
          have c : as.all isVal = true := by
            cases q : as.all isVal with
            | true => rfl
            | false => rw [q] at c; exact absurd c (by simp [flat])
          have f2 := f.fresh al h1 h2 hk
          have na : ¬ PU P0 α a := np_of f.pu h1
          have r2 : RepL K H' (PU (fun b => P0 b ∨ b = a) α) xs es := by
            refine RepL.imp (fun _ _ _ e => e) (fun b ys n h q => ?_) es xs h3
            have nb : b ≠ a := fun z => n (.inr z)
            rcases q with (q | q) | q
            · exact up b ys h (.inl c) (fun z => n (.inl (.inl z))) (.inl q)
            · exact nb q
            · exact up b ys h (.inl c) (fun z => n (.inl (.inl z))) (.inr q)
          refine run α H' (f.alloc al) (.al al) _ ?_
          cases fr with
          | true => exact ⟨a, xs, es, rfl, rfl, h2, x0.nn h1, fun q => na (.inl q), f2, r2⟩
          | false => exact OkV.of (.lst (.inl h2) na (r2.sub fun b q => q.imp .inl id))
        · have hf' : df.ff = false := by simpa using hf
          unfold ResF at hres
          rw [hf'] at hres
          have hfr : fr = false := by
            cases fr with
            | false => rfl
            | true => exact absurd (hff rfl) hf
          subst hfr
          refine run α H' (f.alloc al) (.al al) u (OkV.of ?_)
          by_cases hv : as.all isVal = true
          · exact Rep.imp (fun _ _ _ e => e) (fun b ys n h => up b ys h (.inl hv) fun z => n (.inl z)) d u hres
          · have hv' : as.all isVal = false := by simpa using hv
            rw [hv'] at c
            exact flat_up (fun b ys h n => up b ys (.inr h) (.inr h) fun z => n (.inl z)) d u c hres
      · exact run.elim
end
/-! ### lists of one's own that are handed on -/
section
variable {K : PySem.W.Frag} {mg : Str → Option Value} {W : WX} {P0 : Addr → Prop} {α : Am} {ρ ρ' : Ev} {σ : L2.St} {H : Hp} {df : Df} {m : List D → Rc} {as : List Arg} {us : List V} {ds : List D} {fr : Bool} {Q : VK}
theorem nodupB_cons {i : Nat} {r : List Nat} (h : nodupB (i :: r) = true) : i ∉ r ∧ nodupB r = true := by
  obtain ⟨h1, h2⟩ := dec2 h
  exact ⟨by simpa using h1, h2⟩
theorem setOws_spec : ∀ {ss : List Nat} {ds : List D} {ρ : Ev}, setOws ρ ss ds = some ρ' → nodupB ss = true → (∀ s, s ∈ ss → s < ρ.length) → ρ'.length = ρ.length ∧ (∀ j, j ∉ ss → ρ'[j]? = ρ[j]?) ∧ ∀ (k s : Nat), ss[k]? = some s → ∃ d, ds[k]? = some d ∧ ρ'[s]? = some (Sl.ow d)
  | [], [], ρ, h, _, _ => by
    cases h
    exact ⟨rfl, fun _ _ => rfl, fun k s e => by simp at e⟩
  | [], _ :: _, _, h, _, _ => by cases h
  | _ :: _, [], _, h, _, _ => by cases h
  | s0 :: ss, d :: ds, ρ, h, hn, hl => by
    unfold setOws at h
    split at h
    · obtain ⟨n1, n2⟩ := nodupB_cons hn
      obtain ⟨h1, h2, h3⟩ := setOws_spec h n2 (fun s q => by rw [List.length_set]; exact hl s (List.mem_cons_of_mem _ q))
      rw [List.length_set] at h1
      refine ⟨h1, fun j hj => ?_, fun k s e => ?_⟩
      · rw [h2 j (fun q => hj (List.mem_cons_of_mem _ q)), List.getElem?_set_ne (fun z => hj (by rw [← z]; exact List.mem_cons_self ..))]
      · cases k with
        | zero =>
          simp at e
          subst e
          refine ⟨d, rfl, ?_⟩
          rw [h2 s0 n1, List.getElem?_set_self (hl s0 (List.mem_cons_self ..))]
        | succ k => exact h3 k s (by simpa using e)
    · cases h
theorem slotsIo_get : ∀ {io ss : List Nat} {k s : Nat}, slotsIo as ρ io = some ss → ss[k]? = some s → ∃ i, io[k]? = some i ∧ as[i]? = some (.bor s) ∧ isOw ρ s = true
  | [], ss, k, s, h, e => by cases h; simp at e
  | i :: io, ss, k, s, h, e => by
    unfold slotsIo at h
    split at h
    · rename_i s0 e0
      split at h
      · rename_i o0
        obtain ⟨ss', h1, rfl⟩ := Option.map_eq_some_iff.mp h
        cases k with
        | zero =>
          simp at e
          subst e
          exact ⟨i, rfl, e0, o0⟩
        | succ k => exact slotsIo_get (k := k) h1 (by simpa using e)
      · cases h
    · cases h
theorem slotsIo_mem : ∀ {io ss : List Nat} {i : Nat}, slotsIo as ρ io = some ss → i ∈ io → ∃ s, s ∈ ss ∧ as[i]? = some (.bor s) ∧ isOw ρ s = true
  | [], ss, i, h, e => by cases e
  | i0 :: io, ss, i, h, e => by
    unfold slotsIo at h
    split at h
    · rename_i s0 e0
      split at h
      · rename_i o0
        obtain ⟨ss', h1, rfl⟩ := Option.map_eq_some_iff.mp h
        rcases List.mem_cons.mp e with z | z
        · subst z
          exact ⟨s0, List.mem_cons_self .., e0, o0⟩
        · obtain ⟨s, q1, q2⟩ := slotsIo_mem h1 z
          exact ⟨s, List.mem_cons_of_mem _ q1, q2⟩
      · cases h
    · cases h
theorem slotsIo_inj : ∀ {io ss : List Nat} {i j s : Nat}, slotsIo as ρ io = some ss → nodupB ss = true → i ∈ io → j ∈ io → as[i]? = some (.bor s) → as[j]? = some (.bor s) → i = j
  | [], ss, i, j, s, h, _, e, _, _, _ => by cases e
  | i0 :: io, ss, i, j, s, h, hn, e, e', a1, a2 => by
    unfold slotsIo at h
    split at h
    · rename_i s0 e0
      split at h
      · rename_i o0
        obtain ⟨ss', h1, rfl⟩ := Option.map_eq_some_iff.mp h
        obtain ⟨n1, n2⟩ := nodupB_cons hn
        rcases List.mem_cons.mp e with z | z <;> rcases List.mem_cons.mp e' with z' | z'
        · rw [z, z']
        · subst z
          rw [e0] at a1
          cases a1
          obtain ⟨s', q1, q2, _⟩ := slotsIo_mem h1 z'
          rw [a2] at q2
          cases q2
          exact absurd q1 n1
        · subst z'
          rw [e0] at a2
          cases a2
          obtain ⟨s', q1, q2, _⟩ := slotsIo_mem h1 z
          rw [a1] at q2
          cases q2
          exact absurd q1 n1
        · exact slotsIo_inj h1 n2 z z' a1 a2
      · cases h
    · cases h
theorem IoP_get {P : Addr → Prop} {α0 : Am} {H : Hp} : ∀ {io : List Nat} {ds : List D} {k i : Nat} {d : D}, IoP K P α0 H io ds → io[k]? = some i → ds[k]? = some d → ∃ a, α0 i = some a ∧ Hol K H (PU P α0) a d
  | [], _, k, i, d, h, e, _ => by simp at e
  | _ :: _, [], k, i, d, h, _, e => by simp at e
  | i0 :: io, d0 :: ds, k, i, d, h, e1, e2 => by
    obtain ⟨h1, h2⟩ := h
    cases k with
    | zero =>
      simp at e1 e2
      subst e1 e2
      exact h1
    | succ k => exact IoP_get h2 (by simpa using e1) (by simpa using e2)
def alIo (α : Am) (as : List Arg) (io : List Nat) : Am := fun i => if i ∈ io then (match as[i]? with | some (.bor s) => α s | _ => none) else none
theorem alIo_some {io : List Nat} {i : Nat} {a : Addr} (h : alIo α as io i = some a) : i ∈ io ∧ ∃ s, as[i]? = some (.bor s) ∧ α s = some a := by
  unfold alIo at h
  split at h
  · refine ⟨by assumption, ?_⟩
    split at h
    · exact ⟨_, by assumption, h⟩
    · cases h
  · cases h
theorem alIo_at {io : List Nat} {i s : Nat} (h : i ∈ io) (e : as[i]? = some (.bor s)) : alIo α as io i = α s := by
  unfold alIo
  rw [if_pos h, e]
theorem alIo_pu {io : List Nat} {a : Addr} : PU (fun a => PU P0 α a ∧ ∀ i, alIo α as io i ≠ some a) (alIo α as io) a ↔ PU P0 α a := by
  refine ⟨fun h => ?_, fun h => ?_⟩
  · rcases h with h | ⟨i, h⟩
    · exact h.1
    · obtain ⟨_, s, _, e⟩ := alIo_some h
      exact .inr ⟨s, e⟩
  · by_cases c : ∃ i, alIo α as io i = some a
    · exact .inr c
    · exact .inl ⟨h, fun i e => c ⟨i, e⟩⟩
theorem onlyIo_get {io : List Nat} {j : Nat} {x : Arg} (h : onlyIo as io = true) (e : as[j]? = some x) (hj : io.contains j = false) : isVal x = true := by
  unfold onlyIo at h
  have := List.all_eq_true.mp h (x, j) (by rw [List.mem_zipIdx_iff_getElem?]; exact e)
  have hj' : j ∉ io := by simpa using hj
  simpa [hj'] using this
theorem io_frame {ss : List Nat} (f : FI K P0 α ρ σ H) (hu : ArgRs K P0 α σ H as us) (hr : rsAll ρ as = some ds) (hs : slotsIo as ρ df.io = some ss) (hn : nodupB ss = true) (ho : onlyIo as df.io = true) :
    FI K (fun a => PU P0 α a ∧ ∀ i, alIo α as df.io i ≠ some a) (alIo α as df.io) (slots0 df.io 0 ds) (us.map some) H := by
  have hc := hu.now f hr
  refine ⟨?_, fun i d e => ?_, fun i d e => ?_, fun i a e => ?_, fun i j a e1 e2 => ?_, fun a h => ⟨f.pu a h.1, h.2⟩⟩
  · rw [slots0_len, List.length_map, hc.len]
  · rw [slots0_get] at e
    obtain ⟨d', e1, e2⟩ := Option.map_eq_some_iff.mp e
    rw [Nat.zero_add] at e2
    split at e2
    · cases e2
    · rename_i c
      cases e2
      obtain ⟨u, h1, h2⟩ := hc.get e1
      obtain ⟨x, h3, h4⟩ := hu.get h1
      have hv := onlyIo_get ho h3 (by simpa using c)
      cases x with
      | bor _ => cases hv
      | val d'' =>
        obtain ⟨d3, q1, q2⟩ := rsAll_get hr h3
        rw [e1] at q1
        cases q1
        cases q2
        exact ⟨u, by rw [List.getElem?_map, h1]; rfl, Rep.sub h4 fun a => alIo_pu.mp⟩
  · rw [slots0_get] at e
    obtain ⟨d', e1, e2⟩ := Option.map_eq_some_iff.mp e
    rw [Nat.zero_add] at e2
    split at e2
    · rename_i c
      cases e2
      have hi : i ∈ df.io := by simpa using c
      obtain ⟨s, _, s1, s2⟩ := slotsIo_mem hs hi
      obtain ⟨u, h1, h2⟩ := hc.get e1
      obtain ⟨x, h3, h4⟩ := hu.get h1
      rw [s1] at h3
      cases h3
      obtain ⟨d3, q1, q2⟩ := rsAll_get hr s1
      rw [e1] at q1
      cases q1
      obtain ⟨a, d4, g1, g2, g3, g4⟩ : ∃ a d4, ρ[s]? = some (.ow d4) ∧ α s = some a ∧ σ[s]? = some (some (.ref a)) ∧ Hol K H (PU P0 α) a d4 := by
        unfold isOw at s2
        split at s2
        · rename_i d4 e
          obtain ⟨a, h1, h2, h3⟩ := f.ow s d4 e
          exact ⟨a, d4, e, h1, h2, h3⟩
        · cases s2
      have q2 : getS ρ s = some d := q2
      unfold getS at q2
      rw [g1] at q2
      cases q2
      have h4 : σ[s]? = some (some u) := h4
      rw [g3] at h4
      cases h4
      obtain ⟨xs, es, e5, e6, e7⟩ := g4
      exact ⟨a, by rw [alIo_at hi s1]; exact g2, by rw [List.getElem?_map, h1]; rfl, xs, es, e5, e6, e7.sub fun b => alIo_pu.mp⟩
    · cases e2
  · obtain ⟨hi, s, s1, s2⟩ := alIo_some e
    obtain ⟨d, q1, q2⟩ := rsAll_get hr s1
    exact ⟨d, by rw [slots0_get, q1, Nat.zero_add]; simp [hi]⟩
  · obtain ⟨hi, s, s1, s2⟩ := alIo_some e1
    obtain ⟨hj, t, t1, t2⟩ := alIo_some e2
    have := f.inj s t a s2 t2
    subst this
    exact slotsIo_inj hs hn hi hj s1 t1
theorem io_back {ss : List Nat} {ios : List D} {H' : Hp} (f : FI K P0 α ρ σ H) (hs : slotsIo as ρ df.io = some ss) (hn : nodupB ss = true) (kp : Kp (alIo α as df.io) H H') (hi : IoP K (fun a => PU P0 α a ∧ ∀ i, alIo α as df.io i ≠ some a) (alIo α as df.io) H' df.io ios)
    (h : setOws ρ ss ios = some ρ') : FI K P0 α ρ' σ H' ∧ Ex1 α H α H' := by
  have hss : ∀ s, s ∈ ss → s < ρ.length := fun s q => by
    obtain ⟨k, hk⟩ := List.mem_iff_getElem?.mp q
    obtain ⟨i, _, _, o⟩ := slotsIo_get hs hk
    unfold isOw at o
    split at o
    · rename_i d e
      exact (List.getElem?_eq_some_iff.mp e).1
    · cases o
  obtain ⟨h1, h2, h3⟩ := setOws_spec h hn hss
  have kk : ∀ b o, (∀ j, j ∈ ss → α j ≠ some b) → H b = some o → H' b = some o := fun b o n e => kp.keep b o e fun i q => by
    obtain ⟨hi, s, s1, s2⟩ := alIo_some q
    obtain ⟨s', m1, m2, _⟩ := slotsIo_mem hs hi
    rw [s1] at m2
    cases m2
    exact n s m1 s2
  refine ⟨f.turns h1 (fun j hj => ?_) h2 kk kp.there, ⟨fun b o e n => kk b o (fun j _ => n j) e, fun _ _ e => e, kp.there⟩⟩
  obtain ⟨k, hk⟩ := List.mem_iff_getElem?.mp hj
  obtain ⟨d, q1, q2⟩ := h3 k j hk
  obtain ⟨i, g1, g2, g3⟩ := slotsIo_get hs hk
  obtain ⟨a, g4, xs, es, g5, g6, g7⟩ := IoP_get hi g1 q1
  rw [alIo_at (List.mem_of_getElem? g1) g2] at g4
  exact ⟨d, a, q2, g4, xs, es, g5, g6, g7.sub fun b => alIo_pu.mpr⟩
theorem call_io {Hs : Hp} {ss : List Nat} (hf : df.ff = false) (hn : ∀ ds, ds.length ≠ df.np → ∃ e, m ds = .er e) (f : FI K P0 α ρ σ H) (hu : ArgRs K P0 α σ H as us) (hr : rsAll ρ as = some ds) (hs : slotsIo as ρ df.io = some ss) (hnd : nodupB ss = true) (ho : onlyIo as df.io = true)
    (run : Run W K mg P0 σ α H (afterM ss (m ds) ρ) fun d ρ' α' H' => ∀ u, OkV K P0 false Hs α' ρ' σ H' u d → Q u H') : spM K mg df m us H (fun u H' => KF K H' → Q u H') (WE W σ) := by
  have hc := hu.now f hr
  have hnp : us.length = df.np := by
    rw [hc.len]
    refine np_len hn fun e h => ?_
    rw [h] at run
    exact run
  refine ⟨hnp, _, _, ds, io_frame f hu hr hs hnd ho, fun i a e => (alIo_some e).1, ?_⟩
  cases hm : m ds with
  | er e => rw [hm] at run; exact run
  | ex c d ios =>
    rw [hm] at run
    intro cls dd H' kp hi x
    cases e : setOws ρ ss ios with
    | none => simp only [afterM, e] at run; exact run.elim
    | some ρ' =>
      simp only [afterM, e] at run
      obtain ⟨f2, x2⟩ := io_back f hs hnd kp hi e
      exact run α H' cls dd f2 x2 x
  | ok d ios =>
    rw [hm] at run
    intro u H' kp hi hres kf
    cases e : setOws ρ ss ios with
    | none => simp only [afterM, e] at run; exact run.elim
    | some ρ' =>
      simp only [afterM, e] at run
      obtain ⟨f2, x2⟩ := io_back f hs hnd kp hi e
      unfold ResF at hres
      rw [hf] at hres
      exact run α H' f2 x2 u (OkV.of (Rep.sub hres fun b => alIo_pu.mpr))
/-- a call -/
theorem call_any {Hs : Hp} {αs : Am} (x0 : Ex1 αs Hs α H) (hn : ∀ ds, ds.length ≠ df.np → ∃ e, m ds = .er e) (hfio : df.ff = true → df.io ≠ [] → ∀ ds, ∃ e, m ds = .er e) (f : FI K P0 α ρ σ H) (hu : ArgRs K P0 α σ H as us) (hr : rsAll ρ as = some ds) (hff : fr = true → df.ff = true)
    (run : Run W K mg P0 σ α H (callR' as df.io (m ds) ρ) fun d ρ' α' H' => ∀ u, OkV K P0 fr Hs α' ρ' σ H' u d → Q u H') : spM K mg df m us H (fun u H' => KF K H' → Q u H') (WE W σ) := by
  cases hio : df.io with
  | nil =>
    rw [hio] at run
    exact call_plain x0 hio hn f hu hr hff run
  | cons i io =>
    rw [hio] at run
    have run : Run W K mg P0 σ α H (match slotsIo as ρ (i :: io) with
      | some ss => if nodupB ss && onlyIo as (i :: io) then afterM ss (m ds) ρ else .er "handed lists"
      | none => .er "handed lists") _ := run
    cases hs : slotsIo as ρ (i :: io) with
    | none => rw [hs] at run; exact run.elim
    | some ss =>
      simp only [hs] at run
      split at run
      · rename_i c
        obtain ⟨c1, c2⟩ := dec2 c
        have hf : df.ff = false := by
          cases q : df.ff with
          | false => rfl
          | true =>
            obtain ⟨e, z⟩ := hfio q (by rw [hio]; simp) ds
            rw [z] at run
            exact run.elim
        have hfr : fr = false := by
          cases fr with
          | false => rfl
          | true => rw [hff rfl] at hf; cases hf
        subst hfr
        exact call_io hf hn f hu hr (by rw [hio]; exact hs) c1 (by rw [hio]; exact c2) run
      · exact run.elim
end
section
variable {X : Cx} {C : Cfg} {defs : String → Option Df} {W : WX} {S : Sc} {k : Nat}
theorem pe_callS0 {CX : CXT} {f : Addr} {fd : FuncData} {ps : List Str} {sp : Sp} {E : L2.St → XK} {x : Str} {p pos : Pos} (F : FnOk X.prog X.w X.K X.mg X.base CX k f fd ps sp) (hr : Room k X.A) (hg : Gl X x) (hm : X.mg x = some (.ref f)) (hk : PySem.W.keepIn X.K (.ref f) = true) (hb : Binds X.K fd ps []) (hx : ∀ σ, PassesAt CX X σ (E σ))
    (hdb : (x == ("__debug__" : Str)) = false := by decide) : PE X (.Call (.Name x p) [] [] pos) (tCallS sp E tNil) := by
  refine ⟨fun pins s σ H Q I h => ?_⟩
  refine wpAny_Call_Name_kw (ld_glob I hg hm ?_ hdb)
  exact PySem.W.callWith_K0 I.kIn hk (run_fnS (us := []) F hr hb (hx σ) I .nil h)
theorem sE_call {f : String} {es : List E} {ps : List Expr} {x : Str} {p pos : Pos} {fr : Bool} (o : Okx X C defs W S k) (hx : glB S f x = true) (hs : S.df f = true) (hl : es.length = ps.length) (hn : ps.all nonStar = true) (hff : fr = true → C.ff f = true) (ha : PA X ps (tAs X C W es)) : PE X (.Call (.Name x p) ps [] pos) (tE X C W fr (.call f es)) := by
  obtain ⟨rfl, g, d⟩ := gl_of o hx
  obtain ⟨df, hd⟩ := o.df f hs
  obtain ⟨h1, h2, h3, h4, a, fd, pn, m1, m2, m3, F⟩ := o.tb.fn f df hd
  have key : ∀ σ H Q, tE X C W fr (.call f es) σ H Q → tCallS (spM X.K X.mg df (C.F f)) (WE W) (tAs X C W es) σ H fun u H' => KF X.K H' → Q u H' := by
    rintro σ H Q ⟨P0, α, ρ, fi, r⟩
    rw [evE] at r
    refine ⟨P0, α, ρ, fi, (Run.bd r).mono fun xs ρ1 α1 H1 f1 e1 r1 us hu => ?_⟩
    obtain ⟨ds, hr, r2⟩ := withA_run r1
    rw [h1] at r2
    exact call_any e1 h3 h4 f1 hu hr (fun q => by rw [← h2]; exact hff q) r2
  cases ps with
  | nil =>
    cases es with
    | cons _ _ => cases hl
    | nil =>
      refine pe_by (pe_callS0 F o.room g m1 m2 m3 (passAt o.tk) d) fun σ H Q _ h => ?_
      obtain ⟨P0, α, ρ, fi, r⟩ := key σ H Q h
      rw [evAs_nil] at r
      exact r.here fi [] .nil
  | cons q qs =>
    obtain ⟨n1, n2⟩ := dec2 (show (nonStar q && qs.all nonStar) = true from hn)
    exact pe_by (pe_callS F o.room g m1 m2 m3 (passAt o.tk) ha d (star_cons n1) (star_any n2)) fun σ H Q _ h => key σ H Q h
end
end JK

end
section
set_option Elab.async false
set_option linter.all false
set_option autoImplicit false
set_option maxRecDepth 100000
set_option maxHeartbeats 1000000
/-! JkTg: targets. -/
namespace JK
open PySem PySem.Spec L2
def gT (K : PySem.W.Frag) (tg : Tg) : TG := fun x σ H Q => ∃ P0 α ρ d ρ1, FI K P0 α ρ σ H ∧ Rep K H (PU P0 α) x d ∧ bindT tg d ρ = some ρ1 ∧
  ∀ σ1 α1, FI K P0 α1 ρ1 σ1 H → (∀ i, α1 i = if i ∈ tgS tg then none else α i) → (∀ j, j ∉ tgS tg → σ1[j]? = σ[j]?) → σ1.length = σ.length → Q σ1 H
section
variable {K : PySem.W.Frag} {P0 : Addr → Prop} {α : Am} {ρ ρ' : Ev} {σ : L2.St} {H : Hp}
theorem FI.setSh' {i : Nat} {v : V} {d : D} (f : FI K P0 α ρ σ H) (r : Rep K H (PU P0 α) v d) : FI K P0 (delA α i) (ρ.set i (.sh d)) (σ.set i (some v)) H := by
  by_cases hi : i < σ.length
  · exact f.setSh hi r
  · rw [List.set_eq_of_length_le (by rw [f.len]; omega), List.set_eq_of_length_le (by omega)]
    have : delA α i = α := by
      funext j
      unfold delA
      split
      · rename_i e
        subst e
        cases q : α j with
        | none => rfl
        | some a =>
          obtain ⟨d, e⟩ := f.al j a q
          have := (List.getElem?_eq_some_iff.mp e).1
          rw [f.len] at this
          exact absurd this hi
      · rfl
    rw [this]
    exact f
def setsV (σ : L2.St) : List Nat → List V → L2.St
  | i :: is, v :: vs => setsV (σ.set i (some v)) is vs
  | _, _ => σ
theorem setsV_off : ∀ {is : List Nat} {vs : List V} {σ : L2.St} {j : Nat}, j ∉ is → (setsV σ is vs)[j]? = σ[j]?
  | [], vs, σ, j, h => by unfold setsV; rfl
  | i :: is, [], σ, j, h => by unfold setsV; rfl
  | i :: is, v :: vs, σ, j, h => by
    unfold setsV
    rw [setsV_off (fun q => h (List.mem_cons_of_mem _ q)), List.getElem?_set_ne (fun z => h (by rw [← z]; exact List.mem_cons_self ..))]
theorem setsV_len : ∀ {is : List Nat} {vs : List V} {σ : L2.St}, (setsV σ is vs).length = σ.length
  | [], vs, σ => by unfold setsV; rfl
  | i :: is, [], σ => by unfold setsV; rfl
  | i :: is, v :: vs, σ => by
    unfold setsV
    rw [setsV_len, List.length_set]
theorem delA_pu {i : Nat} {v : V} {d : D} (r : Rep K H (PU P0 α) v d) : Rep K H (PU P0 (delA α i)) v d := r.sub fun a => pu_del
theorem delA_puL {i : Nat} {v : List V} {d : List D} (r : RepL K H (PU P0 α) v d) : RepL K H (PU P0 (delA α i)) v d := r.sub fun a => pu_del
theorem FI.setAll : ∀ {is : List Nat} {ds : List D} {vs : List V} {α : Am} {ρ : Ev} {σ : L2.St}, FI K P0 α ρ σ H → RepL K H (PU P0 α) vs ds → setAll ρ is ds = some ρ' →
    vs.length = is.length ∧ ∃ α1, FI K P0 α1 ρ' (setsV σ is vs) H ∧ ∀ i, α1 i = if i ∈ is then none else α i
  | [], [], vs, α, ρ, σ, f, r, h => by
    cases h
    cases r
    exact ⟨rfl, α, f, fun i => by simp⟩
  | [], _ :: _, vs, α, ρ, σ, f, r, h => by cases h
  | _ :: _, [], vs, α, ρ, σ, f, r, h => by cases h
  | i :: is, d :: ds, _, α, ρ, σ, f, r, h => by
    cases r with
    | cons r1 r2 =>
      obtain ⟨h1, α1, f1, h2⟩ := FI.setAll (f.setSh' (i := i) r1) (delA_puL r2) h
      refine ⟨by rw [List.length_cons, List.length_cons, h1], α1, f1, fun j => ?_⟩
      rw [h2 j]
      unfold delA
      by_cases c : j ∈ is
      · simp [c]
      · by_cases e : j = i <;> simp [c, e]
end
section
variable {X : Cx} {C : Cfg} {defs : String → Option Df} {W : WX} {S : Sc} {k : Nat}
def gNs : List Nat → TGs
  | [] => gNil
  | i :: is => gCons (gName i) (gNs is)
theorem gNs_of : ∀ {is : List Nat} {vs : List V} {σ : L2.St} {H : Hp} {Q : L2.St → Hp → Prop}, vs.length = is.length → Q (setsV σ is vs) H → gNs is vs σ H Q
  | [], [], σ, H, Q, _, q => ⟨rfl, q⟩
  | [], _ :: _, σ, H, Q, h, q => by cases h
  | _ :: _, [], σ, H, Q, h, q => by cases h
  | i :: is, v :: vs, σ, H, Q, h, q => ⟨v, vs, rfl, gNs_of (by simpa using h) q⟩
def stoE (S : Sc) (i : Nat) (p : Expr) : Bool := match p with
  | .Name x _ => stoB S i x
  | _ => false
theorem stoE_name {S : Sc} {i : Nat} {p : Expr} (h : stoE S i p = true) : ∃ x pos, p = .Name x pos ∧ stoB S i x = true := by
  cases p <;> first | exact ⟨_, _, rfl, h⟩ | cases h
theorem chkT_nm {S : Sc} {i : Nat} {p : Expr} (h : chkT S (.nm i) p = true) : ∃ x pos, p = .Name x pos ∧ stoB S i x = true := by
  cases p <;> first | exact ⟨_, _, rfl, h⟩ | cases h
theorem chkT_tp {S : Sc} {is : List Nat} {p : Expr} (h : chkT S (.tp is) p = true) : ∃ es n pos, p = .Tuple es n pos ∧ ((is.length == es.length) && (is.zip es).all fun p => stoE S p.1 p.2) = true := by
  cases p <;> first | exact ⟨_, _, _, rfl, h⟩ | cases h
theorem pgs_names (o : Okx X C defs W S k) : ∀ {is : List Nat} {es : List Expr}, is.length = es.length → ((is.zip es).all fun p => stoE S p.1 p.2) = true → PGs X es (gNs is) ∧ (assignEach es X.env).length = es.length ∧ (assignEach es X.env).findIdx? (·.1) = none
  | [], [], _, _ => ⟨pgs_nil, rfl, rfl⟩
  | [], _ :: _, h, _ => by cases h
  | _ :: _, [], h, _ => by cases h
  | i :: is, p :: es, h, hs => by
    obtain ⟨h1, h2⟩ := dec2 (show (stoE S i p && ((is.zip es).all fun p => stoE S p.1 p.2)) = true from hs)
    obtain ⟨x, pos, rfl, h1⟩ := stoE_name h1
    obtain ⟨q1, q2, q3⟩ := pgs_names o (by simpa using h) h2
    obtain ⟨g1, g2, g3⟩ := sto_of o h1
    refine ⟨pgs_cons (pg_name o.nd g1 g2 g3) q1, congrArg Nat.succ q2, ?_⟩
    show List.findIdx? (·.1) ((false, _) :: assignEach es X.env) = none
    rw [List.findIdx?_cons]
    simp [q3]
theorem pg_any (o : Okx X C defs W S k) {tg : Tg} {p : Expr} (h : chkT S tg p = true) : PG X p (gT X.K tg) := by
  cases tg with
  | nm i =>
    obtain ⟨x, pos, rfl, h⟩ := chkT_nm h
    obtain ⟨g1, g2, g3⟩ := sto_of o h
    refine ⟨fun pins s σ H v u Q I r hw => (pg_name o.nd g1 g2 g3).run pins s σ H v u Q I r ?_⟩
    obtain ⟨P0, α, ρ, d, ρ1, f, r, hb, q⟩ := hw
    cases hb
    refine q _ _ (f.setSh' r) (fun j => by simp [delA, tgS]) (fun j hj => List.getElem?_set_ne (fun z => hj (by rw [← z]; simp [tgS]))) (by simp)
  | tp is =>
    obtain ⟨es, n, pos, rfl, h⟩ := chkT_tp h
    obtain ⟨h1, h2⟩ := dec2 h
    have h1 : is.length = es.length := by simpa using h1
    obtain ⟨q1, q2, q3⟩ := pgs_names o h1 h2
    refine ⟨fun pins s σ H v u Q I r hw => (pg_tup o.calm q1 q2 q3).run pins s σ H v u Q I r ?_⟩
    obtain ⟨P0, α, ρ, d, ρ1, f, r, hb, q⟩ := hw
    cases d <;> try (cases hb; done)
    rename_i ds
    cases r with
    | tup r1 r2 r3 =>
      obtain ⟨g1, α1, g2, g3⟩ := f.setAll r3 hb
      exact ⟨_, _, rfl, r1, by rw [g1, h1], gNs_of g1 (q _ _ g2 g3 (fun j hj => setsV_off hj) setsV_len)⟩
end
end JK

end
section
set_option Elab.async false
set_option linter.all false
set_option autoImplicit false
set_option maxRecDepth 100000
set_option maxHeartbeats 1000000
/-! JkComp: list comprehensions. -/
namespace JK
open PySem PySem.Spec L2
def WF : WX := fun _ _ _ _ => False
/-! ### slots put aside -/
theorem wipe_get {σ : L2.St} {j : Nat} : ∀ {vs : List Nat}, (wipe σ vs)[j]? = if j ∈ vs then (σ[j]?).map (fun _ => none) else σ[j]?
  | [] => by simp [wipe]
  | v :: vs => by
    unfold wipe
    rw [List.getElem?_set, wipe_length]
    by_cases e : v = j
    · subst e
      simp only [if_true, List.mem_cons_self]
      by_cases h : v < σ.length
      · simp [h]
      · simp [h]
    · rw [if_neg e, wipe_get]
      have : j ∈ v :: vs ↔ j ∈ vs := by simp [Ne.symm e]
      simp only [this]
theorem wipeS_len {ρ : Ev} : ∀ {vs : List Nat}, (wipeS ρ vs).length = ρ.length
  | [] => rfl
  | v :: vs => by unfold wipeS; rw [List.length_set, wipeS_len]
theorem wipeS_get {ρ : Ev} {j : Nat} : ∀ {vs : List Nat}, (wipeS ρ vs)[j]? = if j ∈ vs then (ρ[j]?).map (fun _ => Sl.un) else ρ[j]?
  | [] => by simp [wipeS]
  | v :: vs => by
    unfold wipeS
    rw [List.getElem?_set, wipeS_len]
    by_cases e : v = j
    · subst e
      simp only [if_true, List.mem_cons_self]
      by_cases h : v < ρ.length
      · simp [h]
      · simp [h]
    · rw [if_neg e, wipeS_get]
      have : j ∈ v :: vs ↔ j ∈ vs := by simp [Ne.symm e]
      simp only [this]
theorem backS_len {ρ0 ρ : Ev} : ∀ {vs : List Nat}, (backS ρ0 ρ vs).length = ρ.length
  | [] => rfl
  | v :: vs => by unfold backS; rw [List.length_set, backS_len]
theorem backS_get {ρ0 ρ : Ev} {j : Nat} : ∀ {vs : List Nat}, (backS ρ0 ρ vs)[j]? = if j ∈ vs then (ρ[j]?).map (fun _ => ρ0.getD j .un) else ρ[j]?
  | [] => by simp [backS]
  | v :: vs => by
    unfold backS
    rw [List.getElem?_set, backS_len]
    by_cases e : v = j
    · subst e
      simp only [if_true, List.mem_cons_self]
      by_cases h : v < ρ.length
      · simp [h]
      · simp [h]
    · rw [if_neg e, backS_get]
      have : j ∈ v :: vs ↔ j ∈ vs := by simp [Ne.symm e]
      simp only [this]
section
variable {K : PySem.W.Frag} {P0 : Addr → Prop} {α α' : Am} {ρ ρ' : Ev} {σ : L2.St} {H H' : Hp} {vs : List Nat}
theorem ow_none (f : FI K P0 α ρ σ H) {i : Nat} (h : α i = none) : ∀ d, ρ[i]? ≠ some (.ow d) := fun d e => by
  obtain ⟨a, h1, _⟩ := f.ow i d e
  rw [h] at h1
  cases h1
theorem none_ow (f : FI K P0 α ρ σ H) {i : Nat} (h : ∀ d, ρ[i]? ≠ some (.ow d)) : α i = none := by
  cases q : α i with
  | none => rfl
  | some a =>
    obtain ⟨d, e⟩ := f.al i a q
    exact absurd e (h d)
theorem FI.wiped (f : FI K P0 α ρ σ H) (hv : ∀ i, i ∈ vs → α i = none) : FI K P0 α (wipeS ρ vs) (wipe σ vs) H := by
  refine ⟨by rw [wipeS_len, wipe_length, f.len], fun i d e => ?_, fun i d e => ?_, fun i a e => ?_, f.inj, f.p0⟩
  · rw [wipeS_get] at e
    rw [wipe_get]
    split at e
    · cases q : ρ[i]? <;> rw [q] at e <;> cases e
    · rename_i n
      rw [if_neg n]
      exact f.sh i d e
  · rw [wipeS_get] at e
    rw [wipe_get]
    split at e
    · cases q : ρ[i]? <;> rw [q] at e <;> cases e
    · rename_i n
      rw [if_neg n]
      exact f.ow i d e
  · rw [wipeS_get]
    by_cases n : i ∈ vs
    · rw [hv i n] at e
      cases e
    · rw [if_neg n]
      exact f.al i a e
theorem FI.back (f1 : FI K P0 α ρ σ H) (x : Ex1 α H α' H') (f2 : FI K P0 α' ρ' (wipe σ vs) H') (hv : ∀ i, i ∈ vs → α i = none) : FI K P0 α' (backS ρ ρ' vs) σ H' := by
  have hn : ∀ i, i ∈ vs → α' i = none := fun i hi => by
    cases q : α' i with
    | none => rfl
    | some a =>
      have := x.le i a q
      rw [hv i hi] at this
      cases this
  have hl : ρ'.length = ρ.length := by rw [f2.len, wipe_length, ← f1.len]
  have at0 : ∀ i s, i ∈ vs → (ρ'[i]?).map (fun _ => ρ.getD i .un) = some s → ρ[i]? = some s := fun i s hi e => by
    obtain ⟨s', e1, e2⟩ := Option.map_eq_some_iff.mp e
    have hlt := (List.getElem?_eq_some_iff.mp e1).1
    rw [hl] at hlt
    rw [← e2, List.getElem?_eq_getElem hlt, List.getD_eq_getElem?_getD, List.getElem?_eq_getElem hlt]
    rfl
  refine ⟨by rw [backS_len, hl, f1.len], fun i d e => ?_, fun i d e => ?_, fun i a e => ?_, f2.inj, f2.p0⟩
  · rw [backS_get] at e
    split at e
    · rename_i hi
      obtain ⟨v, h1, h2⟩ := f1.sh i d (at0 i _ hi e)
      exact ⟨v, h1, h2.ex1 x⟩
    · rename_i hi
      obtain ⟨v, h1, h2⟩ := f2.sh i d e
      rw [wipe_get, if_neg hi] at h1
      exact ⟨v, h1, h2⟩
  · rw [backS_get] at e
    split at e
    · rename_i hi
      exact absurd (at0 i _ hi e) (ow_none f1 (hv i hi) d)
    · rename_i hi
      obtain ⟨a, h0, h1, h2⟩ := f2.ow i d e
      rw [wipe_get, if_neg hi] at h1
      exact ⟨a, h0, h1, h2⟩
  · rw [backS_get]
    by_cases hi : i ∈ vs
    · rw [hn i hi] at e
      cases e
    · rw [if_neg hi]
      exact f2.al i a e
/-- the list that is nobody's turns -/
theorem FI.bump {p : Addr} {o : HO} (f : FI K (fun b => P0 b ∨ b = p) α ρ σ H) : FI K (fun b => P0 b ∨ b = p) α ρ σ (upd H p o) := by
  have kk : ∀ b u, ¬ PU (fun b => P0 b ∨ b = p) α b → H b = some u → upd H p o b = some u := fun b u n e => by rw [upd_ne (fun z => n (.inl (.inr z)))]; exact e
  refine ⟨f.len, fun i d e => ?_, fun i d e => ?_, f.al, f.inj, fun a h => ?_⟩
  · obtain ⟨v, h1, h2⟩ := f.sh i d e
    exact ⟨v, h1, Rep.imp kk (fun _ _ n _ => n) _ _ h2⟩
  · obtain ⟨a, h1, h2, xs, ds, h3, h4, h5⟩ := f.ow i d e
    exact ⟨a, h1, h2, xs, ds, h3, by rw [upd_ne (fun z => (f.p0 a (.inr z)).2 i h1)]; exact h4, RepL.imp kk (fun _ _ n _ => n) _ _ h5⟩
  · obtain ⟨⟨u, h1⟩, h2⟩ := f.p0 a h
    by_cases e : a = p
    · exact ⟨⟨o, by rw [e]; exact upd_same⟩, h2⟩
    · exact ⟨⟨u, by rw [upd_ne e]; exact h1⟩, h2⟩
theorem Ex1.bump {α1 : Am} {H1 : Hp} {p : Addr} {o : HO} (x : Ex1 α1 H1 α H) (hp : H1 p = none) : Ex1 α1 H1 α (upd H p o) := by
  refine ⟨fun a u e n => ?_, x.le, fun a ⟨u, e⟩ => ?_⟩
  · rw [upd_ne (ne_of_none e hp)]
    exact x.keep a u e n
  · rw [upd_ne (ne_of_none e hp)]
    exact x.there a ⟨u, e⟩
theorem Rep.bump {p : Addr} {o : HO} {v : V} {d : D} (r : Rep K H (PU (fun b => P0 b ∨ b = p) α) v d) : Rep K (upd H p o) (PU (fun b => P0 b ∨ b = p) α) v d :=
  Rep.imp (fun b u n e => by rw [upd_ne (fun z => n (.inl (.inr z)))]; exact e) (fun _ _ n _ => n) _ _ r
theorem RepL.bump {p : Addr} {o : HO} {v : List V} {d : List D} (r : RepL K H (PU (fun b => P0 b ∨ b = p) α) v d) : RepL K (upd H p o) (PU (fun b => P0 b ∨ b = p) α) v d :=
  RepL.imp (fun b u n e => by rw [upd_ne (fun z => n (.inl (.inr z)))]; exact e) (fun _ _ n _ => n) _ _ r
theorem ArgRs.bump {p : Addr} {o : HO} {as : List Arg} {us : List V} (r : ArgRs K (fun b => P0 b ∨ b = p) α σ H as us) : ArgRs K (fun b => P0 b ∨ b = p) α σ (upd H p o) as us := by
  induction r with
  | nil => exact .nil
  | @cons x xs u us h _ ih =>
    refine .cons ?_ ih
    cases x with
    | val d => exact Rep.bump h
    | bor i => exact h
/-- a value that was there when p was not -/
theorem Rep.shut {p : Addr} {o : HO} {v : V} {d : D} (r : Rep K H (PU P0 α) v d) (hp : H p = none) (hk : ∀ o, K.lookup p = some o → False) : Rep K (upd H p o) (PU (fun b => P0 b ∨ b = p) α) v d := by
  refine Rep.imp (fun a o _ q => Al.upd hp a o q) (fun a ys n h q => ?_) d v r
  rcases q with (q | q) | q
  · exact n (.inl q)
  · subst q
    rcases h with (h | ⟨_, h⟩) | ((h | ⟨_, h⟩) | ⟨_, _, _, h, _⟩)
    · rw [hp] at h; cases h
    · rw [hp] at h; cases h
    · rw [hp] at h; cases h
    · rw [hp] at h; cases h
    · exact hk _ h
  · exact n (.inr q)
theorem borIn_not {as : List Arg} (h : borIn vs as = false) : ∀ i, Arg.bor i ∈ as → i ∉ vs := fun i hi hv => by
  unfold borIn at h
  have := List.any_eq_false.mp h _ hi
  exact this (by simpa using hv)
theorem borIn_cons {a : Arg} {as : List Arg} (h : borIn vs (a :: as) = false) : borIn vs as = false ∧ ∀ i, a = .bor i → i ∉ vs := by
  refine ⟨?_, fun i e => borIn_not h i (by rw [e]; exact List.mem_cons_self ..)⟩
  unfold borIn at h ⊢
  rw [List.any_cons, Bool.or_eq_false_iff] at h
  exact h.2
theorem ArgRs.shut {p : Addr} {o : HO} {as : List Arg} {us : List V} (r : ArgRs K P0 α σ H as us) (hp : H p = none) (hk : ∀ o, K.lookup p = some o → False) (hb : borIn vs as = false) : ArgRs K (fun b => P0 b ∨ b = p) α (wipe σ vs) (upd H p o) as us := by
  induction r with
  | nil => exact .nil
  | @cons x xs u us h _ ih =>
    obtain ⟨h1, h2⟩ := borIn_cons hb
    refine .cons ?_ (ih h1)
    cases x with
    | val d => exact Rep.shut h hp hk
    | bor i =>
      show (L2.wipe σ vs)[i]? = some (some u)
      rw [wipe_get, if_neg (h2 i rfl)]
      exact h
theorem ArgRs.wiped {as : List Arg} {us : List V} (r : ArgRs K P0 α σ H as us) (hb : borIn vs as = false) : ArgRs K P0 α (wipe σ vs) H as us := by
  induction r with
  | nil => exact .nil
  | @cons x xs u us h _ ih =>
    obtain ⟨h1, h2⟩ := borIn_cons hb
    refine .cons ?_ (ih h1)
    cases x with
    | val d => exact h
    | bor i =>
      show (L2.wipe σ vs)[i]? = some (some u)
      rw [wipe_get, if_neg (h2 i rfl)]
      exact h
theorem rsAll_wipe : ∀ {as : List Arg}, borIn vs as = false → rsAll (wipeS ρ vs) as = rsAll ρ as
  | [], _ => rfl
  | a :: as, h => by
    obtain ⟨h1, h2⟩ := borIn_cons h
    unfold rsAll
    rw [rsAll_wipe h1]
    congr 1
    cases a with
    | val d => rfl
    | bor i =>
      show getS _ i = getS _ i
      unfold getS
      rw [wipeS_get, if_neg (h2 i rfl)]
end
mutual
theorem eqvB_eq : ∀ (a b : D), eqvB a b = true → a = b
  | .none, b, h => by cases b <;> first | rfl | (simp [eqvB] at h)
  | .bool x, b, h => by cases b <;> first | (simp [eqvB] at h; rw [h]) | (simp [eqvB] at h)
  | .int x, b, h => by cases b <;> first | (simp [eqvB] at h; rw [h]) | (simp [eqvB] at h)
  | .str x, b, h => by cases b <;> first | (simp [eqvB] at h; rw [h]) | (simp [eqvB] at h)
  | .list xs, b, h => by
    cases b <;> first | (simp [eqvB] at h; done) | skip
    exact congrArg _ (eqvBs_eq xs _ (by simpa [eqvB] using h))
  | .tuple xs, b, h => by
    cases b <;> first | (simp [eqvB] at h; done) | skip
    exact congrArg _ (eqvBs_eq xs _ (by simpa [eqvB] using h))
  | .dict xs, b, h => by cases b <;> simp [eqvB] at h
theorem eqvBs_eq : ∀ (a b : List D), eqvBs a b = true → a = b
  | [], b, h => by cases b <;> first | rfl | (simp [eqvBs] at h)
  | x :: xs, [], h => by simp [eqvBs] at h
  | x :: xs, y :: ys, h => by
    obtain ⟨h1, h2⟩ := dec2 (by simpa only [eqvBs] using h)
    rw [eqvB_eq x y h1, eqvBs_eq xs ys h2]
end
theorem sameD_eq {a : Option (List D)} {b : List D} (h : sameD a (some b) = true) : a = some b := by
  cases a with
  | none => cases h
  | some a => rw [eqvBs_eq a b h]
theorem items_len {K : PySem.W.Frag} {H : Hp} {P : Addr → Prop} {k : Ik} {us : List V} {ds items : List D} (kf : KF K H) (r : RepCs K H P us ds) (h : itemsD k ds = .ok items) : items.length ≤ sizeLine := by
  have rl : ∀ a b, (rngOk a b) = true → (rngL a b).length ≤ sizeLine := fun a b h => by
    obtain ⟨h1, h2, h3, h4⟩ := rngOk_b h
    rw [sizeLine_eq]
    simp only [rngL, List.length_map, List.length_range]
    omega
  have ll : ∀ u xs, RepC K H P u (.list xs) → xs.length ≤ sizeLine := fun u xs q => by
    obtain ⟨a, vs, _, h1, h2⟩ := q.lst
    rw [← h2.length]
    exact kf.ll _ _ h1
  have lt : ∀ u xs, RepC K H P u (.tuple xs) → xs.length ≤ sizeLine := fun u xs q => by
    obtain ⟨a, vs, _, h1, _, h2⟩ := q.tup
    rw [← h2.length]
    exact kf.lt _ _ h1
  unfold itemsD at h
  split at h
  all_goals first
    | (cases h; done)
    | (obtain ⟨u, rfl, q⟩ := r.one
       cases h
       first | exact ll _ _ q | exact lt _ _ q | (rw [List.length_map, List.length_zipIdx]; first | exact ll _ _ q | exact lt _ _ q) | (cases q with | cl q => cases q))
    | (split at h
       · cases h
         exact rl _ _ (by assumption)
       · cases h)
    | (obtain ⟨u, w, rfl, q, q2⟩ := r.two
       cases h
       rw [List.length_map, List.length_zip]
       refine Nat.le_trans (Nat.min_le_left _ _) ?_
       first | exact ll _ _ q | exact lt _ _ q)
section
variable {X : Cx}
theorem pi_kf {tg p : Expr} {t : TI} (h : PI X tg p t) : PI X tg p fun σ H R => t σ H fun J H' => KF X.K H' → R J H' :=
  ⟨fun pins s σ H R I hq => thn (h.run pins s σ H _ I hq) fun v s1 h1 => thn h1 fun u s2 ⟨it, fp, tn, J, H', e, I', T, st, fr, q⟩ => ⟨it, fp, tn, J, H', e, I', T, st, fr, q (kf_of I')⟩⟩
theorem pts_weak {ps : List Expr} {t t' : TT} (h : PTs X ps t) (w : ∀ σ H Q, t' σ H Q → t σ H Q) : PTs X ps t' := ⟨fun pins s σ H Q I hq => h.run pins s σ H Q I (w σ H Q hq)⟩
end
end JK

end
section
set_option Elab.async false
set_option linter.all false
set_option autoImplicit false
set_option maxRecDepth 100000
set_option maxHeartbeats 1000000
/-! JkComp1: the comprehension's loop. -/
namespace JK
open PySem PySem.Spec L2
section
variable {X : Cx} {C : Cfg} {W : WX} {S : Sc}
def gK (K : PySem.W.Frag) (tg : Tg) : TG := fun x σ H Q => KF K H → gT K tg x σ H Q
theorem pg_kf {p : Expr} {tg : Tg} (h : PG X p (gT X.K tg)) : PG X p (gK X.K tg) := ⟨fun pins s σ H v u Q I r hq => h.run pins s σ H v u Q I r (hq (kf_of I))⟩
theorem RepCs.none {K : PySem.W.Frag} {P : Addr → Prop} {H : Hp} {us : List V} {ds : List D} (h : RepCs K H P us ds) : RepCs K H (fun _ => False) us ds := by
  induction h with
  | nil => exact .nil
  | cons a _ ih =>
    refine .cons ?_ ih
    cases a with
    | cl a => exact .cl (a.sub fun _ z => z.elim)
    | top a b => exact .top a (b.sub fun _ z => z.elim)
theorem RepCs.al {K : PySem.W.Frag} {P : Addr → Prop} {H H' : Hp} {us : List V} {ds : List D} (h : RepCs K H P us ds) (k : Al H H') : RepCs K H' P us ds := by
  induction h with
  | nil => exact .nil
  | cons a _ ih => exact .cons (a.al k) ih
/-- what a turn of the walk needs -/
structure LpF (K : PySem.W.Frag) (P0 : Addr → Prop) (p : Addr) (α1 : Am) (H1 : Hp) (as : List Arg) (us : List V) (ds : List D) (vs : List Nat) (σw : L2.St) (ρ : Ev) (H : Hp) (α : Am) (acc : List V) (accD : List D) : Prop where
  fi : FI K (fun b => P0 b ∨ b = p) α ρ σw H
  at_ : H p = some (.lst acc)
  rp : RepL K H (PU (fun b => P0 b ∨ b = p) α) acc accD
  ex : Ex1 α1 H1 α H
  ar : ArgRs K (fun b => P0 b ∨ b = p) α σw H as us
  rs : rsAll ρ as = some ds
  vs : ∀ j, j ∈ vs → α j = none
theorem LpF.grow {K : PySem.W.Frag} {P0 : Addr → Prop} {p : Addr} {α1 : Am} {H1 H H' : Hp} {as : List Arg} {us : List V} {ds : List D} {vs : List Nat} {σw : L2.St} {ρ : Ev} {α : Am} {acc : List V} {accD : List D}
    (l : LpF K P0 p α1 H1 as us ds vs σw ρ H α acc accD) (k : Al H H') : LpF K P0 p α1 H1 as us ds vs σw ρ H' α acc accD :=
  ⟨l.fi.alloc k, k _ _ l.at_, l.rp.al k, l.ex.trans (.al k), l.ar.ex1 (.al k), l.rs, l.vs⟩
/-- the turn's end: slots put aside again -/
theorem LpF.turn {K : PySem.W.Frag} {P0 : Addr → Prop} {p : Addr} {α1 : Am} {H1 H H' : Hp} {as : List Arg} {us : List V} {ds : List D} {vs : List Nat} {σ σ2 : L2.St} {ρ ρ' : Ev} {α α' : Am} {acc : List V} {accD : List D}
    (l : LpF K P0 p α1 H1 as us ds vs (wipe σ vs) ρ H α acc accD) (hw : wipe σ2 vs = wipe σ vs) (f' : FI K (fun b => P0 b ∨ b = p) α' ρ' σ2 H') (e : Ex1 α H α' H') (hb : borIn vs as = false) (hr : rsAll ρ' as = some ds) : LpF K P0 p α1 H1 as us ds vs (wipe σ vs) (wipeS ρ' vs) H' α' acc accD := by
  have hv : ∀ j, j ∈ vs → α' j = none := fun j hj => by
    cases q : α' j with
    | none => rfl
    | some a =>
      have := e.le j a q
      rw [l.vs j hj] at this
      cases this
  have f2 := f'.wiped hv
  rw [hw] at f2
  exact ⟨f2, e.keep _ _ l.at_ (fun i => (l.fi.p0 p (.inr rfl)).2 i), l.rp.ex1 e, l.ex.trans e, l.ar.ex1 e, by rw [rsAll_wipe hb]; exact hr, hv⟩
theorem LpF.push {K : PySem.W.Frag} {P0 : Addr → Prop} {p : Addr} {α1 : Am} {H1 H : Hp} {as : List Arg} {us : List V} {ds : List D} {vs : List Nat} {σw : L2.St} {ρ : Ev} {α : Am} {acc : List V} {accD : List D} {y : V} {d : D}
    (l : LpF K P0 p α1 H1 as us ds vs σw ρ H α acc accD) (hp : H1 p = none) (r : Rep K H (PU (fun b => P0 b ∨ b = p) α) y d) : LpF K P0 p α1 H1 as us ds vs σw ρ (upd H p (.lst (acc ++ [y]))) α (acc ++ [y]) (accD ++ [d]) :=
  ⟨l.fi.bump, upd_same, (l.rp.snoc r).bump, l.ex.bump hp, l.ar.bump, l.rs, l.vs⟩
theorem LpF.reps {K : PySem.W.Frag} {P0 : Addr → Prop} {p : Addr} {α1 : Am} {H1 H : Hp} {as : List Arg} {us : List V} {ds : List D} {vs : List Nat} {σw : L2.St} {ρ : Ev} {α : Am} {acc : List V} {accD : List D}
    (l : LpF K P0 p α1 H1 as us ds vs σw ρ H α acc accD) : RepCs K H (PU (fun b => P0 b ∨ b = p) α) us ds := l.ar.now l.fi l.rs
theorem LpF.start {K : PySem.W.Frag} {P0 : Addr → Prop} {p : Addr} {α : Am} {H : Hp} {as : List Arg} {us : List V} {ds : List D} {vs : List Nat} {σ : L2.St} {ρ : Ev} (f : FI K P0 α ρ σ H) (hu : ArgRs K P0 α σ H as us) (hr : rsAll ρ as = some ds) (hv : ∀ j, j ∈ vs → α j = none) (hb : borIn vs as = false)
    (hp : H p = none) (hk : ∀ o, K.lookup p = some o → False) : LpF K P0 p α H as us ds vs (wipe σ vs) (wipeS ρ vs) (upd H p (.lst [])) α [] [] :=
  ⟨(f.wiped hv).allocP hp hk, upd_same, .nil, Ex1.al (Al.upd hp), hu.shut hp hk hb, by rw [rsAll_wipe hb]; exact hr, hv⟩
/-- the list is done -/
theorem LpF.done {K : PySem.W.Frag} {P0 : Addr → Prop} {p : Addr} {α1 : Am} {H1 H : Hp} {as : List Arg} {us : List V} {ds : List D} {vs : List Nat} {σ : L2.St} {ρ ρ1 : Ev} {α : Am} {acc : List V} {accD : List D} {fr : Bool} {Hs : Hp}
    (l : LpF K P0 p α1 H1 as us ds vs (wipe σ vs) ρ H α acc accD) (hs0 : Hs p = none) (f1 : FI K P0 α1 ρ1 σ H1) (hv : ∀ j, j ∈ vs → α1 j = none) (hp : H1 p = none) (hk : ∀ o, K.lookup p = some o → False) : FI K P0 α (backS ρ1 ρ vs) σ H ∧ OkV K P0 fr Hs α (backS ρ1 ρ vs) σ H (.ref p) (.list accD) := by
  have hP : ¬ P0 p := fun q => by
    obtain ⟨⟨o, e⟩, _⟩ := f1.p0 p q
    rw [hp] at e
    cases e
  have e' : Ex1 α1 H1 α H := l.ex
  have fP : FI K P0 α ρ (wipe σ vs) H := l.fi.weakP fun a => .inl
  have hb : FI K P0 α (backS ρ1 ρ vs) σ H := f1.back e' fP hv
  refine ⟨hb, ?_⟩
  have np : ¬ PU P0 α p := fun q => by
    rcases q with q | ⟨i, q⟩
    · exact hP q
    · exact (l.fi.p0 p (.inr rfl)).2 i q
  have f3 : FI K (fun b => P0 b ∨ b = p) α (backS ρ1 ρ vs) σ H := by
    -- the values in the slots put back were there ahead of p
    refine ⟨hb.len, fun i d e => ?_, fun i d e => ?_, hb.al, hb.inj, l.fi.p0⟩
    · rw [backS_get] at e
      split at e
      · rename_i hi
        obtain ⟨v, h1, h2⟩ := hb.sh i d (by rw [backS_get, if_pos hi]; exact e)
        refine ⟨v, h1, ?_⟩
        obtain ⟨s', e1, e2⟩ := Option.map_eq_some_iff.mp e
        have hlt : i < ρ1.length := by
          have := (List.getElem?_eq_some_iff.mp e1).1
          rw [l.fi.len, wipe_length, ← f1.len] at this
          exact this
        have e3 : ρ1[i]? = some (.sh d) := by
          rw [← e2, List.getElem?_eq_getElem hlt, List.getD_eq_getElem?_getD, List.getElem?_eq_getElem hlt]
          rfl
        obtain ⟨v', g1, g2⟩ := f1.sh i d e3
        rw [h1] at g1
        cases g1
        refine Rep.imp (fun a o n q => l.ex.keep a o q fun i q => n (.inr ⟨i, q⟩)) (fun a xs n h q => ?_) d v g2
        rcases q with (q | q) | ⟨i, q⟩
        · exact n (.inl q)
        · subst q
          rcases h with (h | ⟨_, h⟩) | ((h | ⟨_, h⟩) | ⟨_, _, _, h, _⟩)
          · rw [hp] at h; cases h
          · rw [hp] at h; cases h
          · rw [hp] at h; cases h
          · rw [hp] at h; cases h
          · exact hk _ h
        · exact n (.inr ⟨i, l.ex.le i a q⟩)
      · rename_i hi
        obtain ⟨v, h1, h2⟩ := l.fi.sh i d e
        rw [wipe_get, if_neg hi] at h1
        exact ⟨v, h1, h2⟩
    · rw [backS_get] at e
      split at e
      · rename_i hi
        exact absurd (by rw [backS_get, if_pos hi]; exact e) (ow_none hb (i := i) (by
          cases q : α i with
          | none => rfl
          | some a =>
            have := l.ex.le i a q
            rw [hv i hi] at this
            cases this) d)
      · rename_i hi
        obtain ⟨a, h0, h1, h2⟩ := l.fi.ow i d e
        rw [wipe_get, if_neg hi] at h1
        exact ⟨a, h0, h1, h2⟩
  cases fr with
  | true => exact ⟨p, acc, accD, rfl, rfl, l.at_, hs0, hP, f3, l.rp⟩
  | false => exact OkV.of (.lst (.inl l.at_) np (l.rp.sub fun b q => q.imp .inl id))
theorem compL_nil {β : Type} {tg : Tg} {vs : List Nat} {cond : Ev → R Bool} {elt : Ev → R β} {still : Ev → Bool} {ρ : Ev} : compL tg vs cond elt still [] ρ = .ok [] ρ := rfl
/-- a turn that has come through -/
theorem compL_cons {β : Type} {tg : Tg} {vs : List Nat} {cond : Ev → R Bool} {elt : Ev → R β} {still : Ev → Bool} {d : D} {r : List D} {ρ ρ4 : Ev} {xs : List β} (h : compL tg vs cond elt still (d :: r) ρ = .ok xs ρ4) :
    ∃ ρ1 b ρ2, bindT tg d ρ = some ρ1 ∧ cond ρ1 = .ok b ρ2 ∧
      ((b = true ∧ ∃ x ρ3 xs', elt ρ2 = .ok x ρ3 ∧ still ρ3 = true ∧ compL tg vs cond elt still r (wipeS ρ3 vs) = .ok xs' ρ4 ∧ xs = x :: xs') ∨
       (b = false ∧ still ρ2 = true ∧ compL tg vs cond elt still r (wipeS ρ2 vs) = .ok xs ρ4)) := by
  unfold compL at h
  split at h
  · cases h
  · rename_i ρ1 e1
    obtain ⟨b, ρ2, e2, h⟩ := bd_ok h
    refine ⟨ρ1, b, ρ2, e1, e2, ?_⟩
    split at h
    · rename_i hb
      obtain ⟨x, ρ3, e3, h⟩ := bd_ok h
      split at h
      · rename_i hs
        obtain ⟨xs', ρ5, e4, h⟩ := bd_ok h
        cases h
        exact .inl ⟨hb, x, ρ3, xs', e3, hs, e4, rfl⟩
      · cases h
    · rename_i hb
      split at h
      · rename_i hs
        exact .inr ⟨by simpa using hb, hs, h⟩
      · cases h
/-- a target is stored: the turn goes on there -/
theorem LpF.bind {K : PySem.W.Frag} {P0 : Addr → Prop} {p : Addr} {α1 : Am} {H1 H H' : Hp} {as : List Arg} {us : List V} {ds : List D} {vs : List Nat} {σ : L2.St} {ρ ρ1 : Ev} {α : Am} {acc : List V} {accD : List D} {tg : Tg} {d : D} {x : V} {Q : L2.St → Hp → Prop}
    (l : LpF K P0 p α1 H1 as us ds vs σ ρ H α acc accD) (hv : ∀ j, j ∈ tgS tg → j ∈ vs) (hb : bindT tg d ρ = some ρ1) (k : Al H H') (r : Rep K H' (PU (fun b => P0 b ∨ b = p) α) x d)
    (q : ∀ σ2, FI K (fun b => P0 b ∨ b = p) α ρ1 σ2 H' → (∀ j, j ∉ tgS tg → σ2[j]? = σ[j]?) → σ2.length = σ.length → Q σ2 H') : gT K tg x σ H' Q := by
  refine ⟨_, α, ρ, d, ρ1, (l.fi.alloc k), r, hb, fun σ2 α2 f2 ha hj hl => ?_⟩
  have : α2 = α := by
    funext i
    rw [ha i]
    split
    · rename_i hi
      exact (l.vs i (hv i hi)).symm
    · rfl
  subst this
  exact q σ2 f2 hj hl
theorem wipe_same {σ σ2 : L2.St} {vs ts : List Nat} (hv : ∀ j, j ∈ ts → j ∈ vs) (h : ∀ j, j ∉ ts → σ2[j]? = (wipe σ vs)[j]?) (hl : σ2.length = (wipe σ vs).length) : wipe σ2 vs = wipe σ vs := by
  apply List.ext_getElem?
  intro j
  rw [wipe_get, wipe_get]
  by_cases hj : j ∈ vs
  · rw [if_pos hj, if_pos hj]
    rw [wipe_length] at hl
    by_cases c : j < σ.length
    · rw [List.getElem?_eq_getElem (by rw [hl]; exact c), List.getElem?_eq_getElem c]
      rfl
    · rw [List.getElem?_eq_none (by omega), List.getElem?_eq_none (by omega)]
  · rw [if_neg hj, if_neg hj, h j (fun z => hj (hv j z)), wipe_get, if_neg hj]
theorem Run.of_ok {K : PySem.W.Frag} {mg : Str → Option Value} {P0 : Addr → Prop} {σ : L2.St} {α : Am} {H : Hp} {β : Type} {r : R β} {b : β} {ρ : Ev} {ok : β → Ev → Am → Hp → Prop} (e : r = .ok b ρ) (h : ∀ α' H', FI K P0 α' ρ σ H' → Ex1 α H α' H' → ok b ρ α' H') : Run WF K mg P0 σ α H r ok := by
  subst e
  exact h
theorem noEx_run {K : PySem.W.Frag} {mg : Str → Option Value} {W : WX} {P0 : Addr → Prop} {σ : L2.St} {α : Am} {H : Hp} {β : Type} {r : R β} {ok : β → Ev → Am → Hp → Prop} (h : Run W K mg P0 σ α H (noEx r) ok) : ∃ b ρ, r = .ok b ρ ∧ Run W K mg P0 σ α H (.ok b ρ) ok := by
  cases r with
  | ok b ρ => exact ⟨b, ρ, rfl, h⟩
  | ex c d ρ => exact h.elim
  | er m => exact h.elim
theorem any_ow {ρ : Ev} {vs : List Nat} (h : vs.any (isOw ρ) = false) {K : PySem.W.Frag} {P0 : Addr → Prop} {α : Am} {σ : L2.St} {H : Hp} (f : FI K P0 α ρ σ H) : ∀ j, j ∈ vs → α j = none := fun j hj => none_ow f fun d e => by
  have := List.any_eq_false.mp h j hj
  unfold isOw at this
  rw [e] at this
  exact this rfl
theorem comp_w {elt : E} {tg : Tg} {k : Ik} {es cs : List E} {vs : List Nat} {fr : Bool} (hv : (tgS tg).all vs.contains = true) : ∀ (σ : L2.St) (H : Hp) (Q : VK), KF X.K H → tE X C W fr (.comp elt tg k es cs vs) σ H Q →
    tLc (fun σ H R => tI X C W k es σ H fun J H' => KF X.K H' → R J H') (gK X.K tg) (tC' X C WF cs) (tE X C WF false elt) vs σ H fun u H' => KF X.K H' → Q u H' := by
  have hv : ∀ j, j ∈ tgS tg → j ∈ vs := fun j hj => by simpa using List.all_eq_true.mp hv j hj
  rintro σ H Q kf ⟨P0, α, ρ, f, r⟩
  rw [evE] at r
  refine ⟨P0, α, ρ, f, (Run.bd r).mono fun as ρ1 α1 H1 f1 e1 r1 => ?_⟩
  obtain ⟨ds, h1, r2⟩ := withA_run r1
  obtain ⟨items, h2, r3⟩ := Run.lift (Run.bd r2)
  have r4 := r3.here f1
  refine ⟨ds, items, h1, h2, fun us J hu hit kf1 p hp => ?_⟩
  split at r4
  · exact r4.elim
  · rename_i hno
    obtain ⟨hno1, hno2⟩ := Bool.or_eq_false_iff.mp (by simpa only [Bool.not_eq_true] using hno)
    obtain ⟨v, ρe, he1, r5⟩ := noEx_run r4
    obtain ⟨total, ρ4, hcl, he2⟩ := bd_ok he1
    cases he2
    have hvs := any_ow hno1 f1
    have hlen : items.length ≤ sizeLine := items_len kf1 (hu.now f1 h1) h2
    refine ⟨fun i m H => i + m = items.length ∧ RepCs X.K H (fun _ => False) us ds ∧ ∃ acc, H p = some (.lst acc) ∧ acc.length ≤ i ∧ ((∀ o, X.K.lookup p = some o → False) →
        ∃ α ρ accD xs, LpF X.K P0 p α1 H1 as us ds vs (wipe σ vs) ρ H α acc accD ∧ compL tg vs (evC C cs) (evE C elt) (fun ρ' => sameD (rsAll ρ' as) (some ds)) (items.drop i) ρ = .ok xs ρ4 ∧ accD ++ xs = total),
      ⟨items.length, by omega, (hu.now f1 h1).none.al (Al.upd hp), [], upd_same, Nat.zero_le _, fun hk => ⟨α1, wipeS ρ1 vs, [], total, LpF.start f1 hu h1 hvs hno2 hp hk, hcl, rfl⟩⟩, ?_⟩
    rintro i m H2 ⟨him, hrc, acc, hacc, hal, hF⟩
    have hit2 := hit H2 (fun _ => False) hrc (fun _ z => z.elim)
    cases hd : items[i]? with
    | none =>
      refine .inl ⟨hit2.2 i (by simpa using hd), fun kf2 => ?_⟩
      have hk : ∀ o, X.K.lookup p = some o → False := fun o e => by
        have := kf2.free _ _ e
        rw [hacc] at this
        cases this
      obtain ⟨α2, ρ2, accD, xs, l, hc2, ht2⟩ := hF hk
      rw [List.drop_eq_nil_of_le (by simpa using hd), compL_nil] at hc2
      cases hc2
      rw [List.append_nil] at ht2
      subst ht2
      obtain ⟨g1, g2⟩ := l.done (fr := fr) (e1.nn hp) f1 hvs hp hk
      exact r5.at g1 l.ex _ g2
    | some d =>
      have hlt : i < items.length := (List.getElem?_eq_some_iff.mp hd).1
      have hdr : items.drop i = d :: items.drop (i + 1) := by
        rw [List.drop_eq_getElem_cons hlt]
        congr 1
        exact Option.some.inj ((List.getElem?_eq_getElem hlt).symm.trans hd)
      refine .inr ⟨(hit2.1 i d hd).1, fun H' => i + 1 + (m - 1) = items.length ∧ RepCs X.K H' (fun _ => False) us ds ∧ ∃ acc, H' p = some (.lst acc) ∧ acc.length ≤ i + 1 ∧ ((∀ o, X.K.lookup p = some o → False) →
        ∃ α ρ accD xs, LpF X.K P0 p α1 H1 as us ds vs (wipe σ vs) ρ H' α acc accD ∧ compL tg vs (evC C cs) (evE C elt) (fun ρ' => sameD (rsAll ρ' as) (some ds)) (items.drop (i + 1)) ρ = .ok xs ρ4 ∧ accD ++ xs = total), fun H' w => ⟨m - 1, by omega, w⟩, fun x H3 hy => ?_⟩
      intro kf3
      have al3 := ((hit2.1 i d hd).2 x H3 hy).1
      have hk : ∀ o, X.K.lookup p = some o → False := fun o e => by
        have := kf3.free _ _ e
        rw [al3 _ _ hacc] at this
        cases this
      obtain ⟨α2, ρ2, accD, xs, l, hc2, ht2⟩ := hF hk
      rw [hdr] at hc2
      obtain ⟨ρb, b, ρc, hb1, hb2, hb3⟩ := compL_cons hc2
      have hitP := hit H2 _ l.reps l.fi.pu
      have hrx := ((hitP.1 i d hd).2 x H3 hy).2
      have l3 := l.grow al3
      refine l3.bind hv hb1 (Al.refl _) hrx fun σ2 f2 hσ hσl => ⟨wipe_same hv hσ hσl, _, α2, ρb, f2, Run.of_ok hb2 fun α5 H5 f5 e5 => ?_⟩
      have ws := wipe_same hv hσ hσl
      rcases hb3 with ⟨rfl, z, ρ3, xs', he3, hs3, hc3, rfl⟩ | ⟨rfl, hs3, hc3⟩
      · show ite _ _ _
        rw [if_pos rfl]
        refine ⟨_, α5, ρc, f5, Run.of_ok he3 fun α6 H6 f6 e6 u hu6 => ?_⟩
        have l6 := l3.turn ws f6 (e5.trans e6) hno2 (sameD_eq hs3)
        have l7 := l6.push hp (OkV.rep hu6)
        refine ⟨acc, l6.at_, by omega, by omega, l7.reps.none, _, upd_same, by simp; omega, fun _ => ⟨α6, _, _, xs', l7, hc3, by simp [← ht2]⟩⟩
      · show ite _ _ _
        rw [if_neg (by simp)]
        have l6 := l3.turn ws f5 e5 hno2 (sameD_eq hs3)
        exact ⟨by omega, l6.reps.none, acc, l6.at_, by omega, fun _ => ⟨α5, _, accD, xs, l6, hc3, ht2⟩⟩
theorem own_vs (S : Sc) (vs : List Nat) : (ownV S vs).map (·.2) = vs := by simp [ownV, Function.comp_def]
theorem sE_comp {elt : E} {tg : Tg} {k : Ik} {es cs : List E} {vs : List Nat} {pe ptg pit : Expr} {pifs : List Expr} {scope : Scope} {pos : Pos} {fr : Bool} (hc : X.calm = true) (hN : X.N.Nodup) (ok : BlkOk X.N X.env.scope scope (ownV S vs)) (hv : (tgS tg).all vs.contains = true)
    (hi : PI X ptg pit (tI X C W k es))
    (hg : ∀ (s : Shared) (H : Hp) (C : Addr) (cl : List (Str × Addr)) (fp : List Addr), PG (X.blk s H scope (compEnvC scope cl C X.env) fp) ptg (gT X.K tg))
    (ht : ∀ (s : Shared) (H : Hp) (C' : Addr) (cl : List (Str × Addr)) (fp : List Addr), PTs (X.blk s H scope (compEnvC scope cl C' X.env) fp) pifs (tC' X C WF cs))
    (he : ∀ (s : Shared) (H : Hp) (C' : Addr) (cl : List (Str × Addr)) (fp : List Addr), PE (X.blk s H scope (compEnvC scope cl C' X.env) fp) pe (tE X C WF false elt))
    (hs : ∀ x, foldedSetIterable pit X.env x = pure x) : PE X (.ListComp pe [⟨ptg, pit, pifs, 0⟩] scope pos) (tE X C W fr (.comp elt tg k es cs vs)) := by
  refine pe_by (pe_lc (g := gK X.K tg) hc hN (pi_kf hi) ok (fun s H C' cl fp => pg_kf (hg s H C' cl fp)) ht he hs) ?_
  rw [own_vs]
  exact comp_w hv
end
end JK

end
section
set_option Elab.async false
set_option linter.all false
set_option autoImplicit false
set_option maxRecDepth 100000
set_option maxHeartbeats 2000000
/-! JkComp2: comprehensions of two walks. -/
namespace JK
open PySem PySem.Spec L2
section
variable {X : Cx} {C : Cfg} {W : WX} {S : Sc}
theorem inner_inv {es1 cs1 : List E} {k1 : Ik} {tg1 : Tg} {vs1 : List Nat} {elt : E} {ρ ρ3 : Ev} {xs : List D} (h : ((evAs C es1 ρ).bd fun as1 ρ2 => withA as1 ρ2 fun ds1 => (lift (itemsD k1 ds1) ρ2).bd fun items1 _ =>
        if borIn vs1 as1 then .er "the walked name is stored anew" else compL tg1 vs1 (evC C cs1) (evE C elt) (fun ρ'' => sameD (rsAll ρ'' as1) (some ds1)) items1 (wipeS ρ2 vs1)) = .ok xs ρ3) :
    ∃ as1 ρ2 ds1 items1, evAs C es1 ρ = .ok as1 ρ2 ∧ rsAll ρ2 as1 = some ds1 ∧ itemsD k1 ds1 = .ok items1 ∧ borIn vs1 as1 = false ∧ compL tg1 vs1 (evC C cs1) (evE C elt) (fun ρ'' => sameD (rsAll ρ'' as1) (some ds1)) items1 (wipeS ρ2 vs1) = .ok xs ρ3 := by
  obtain ⟨as1, ρ2, h1, h⟩ := bd_ok h
  unfold withA at h
  split at h
  · rename_i ds1 h2
    obtain ⟨items1, ρ5, h3, h⟩ := bd_ok h
    split at h
    · cases h
    · rename_i hb
      have h3' : itemsD k1 ds1 = .ok items1 := by
        unfold lift at h3
        split at h3
        · cases h3
          assumption
        · cases h3
      exact ⟨as1, ρ2, ds1, items1, h1, h2, h3', by simpa using hb, h⟩
  · cases h
theorem drop_at {items : List D} {i : Nat} {d : D} (hd : items[i]? = some d) : items.drop i = d :: items.drop (i + 1) := by
  have hlt : i < items.length := (List.getElem?_eq_some_iff.mp hd).1
  rw [List.drop_eq_getElem_cons hlt]
  congr 1
  exact Option.some.inj ((List.getElem?_eq_getElem hlt).symm.trans hd)
theorem wipe_wipe {σ σ2 : L2.St} {vs vs1 : List Nat} (hv : ∀ j, j ∈ vs1 → j ∈ vs) (h : wipe σ2 vs = wipe σ vs) : wipe (wipe σ2 vs1) vs = wipe σ vs := by
  rw [← h]
  apply List.ext_getElem?
  intro j
  rw [wipe_get, wipe_get, wipe_get]
  by_cases hj : j ∈ vs
  · rw [if_pos hj, if_pos hj]
    by_cases h1 : j ∈ vs1
    · rw [if_pos h1]
      cases σ2[j]? <;> rfl
    · rw [if_neg h1]
  · rw [if_neg hj, if_neg hj, if_neg (fun z => hj (hv j z))]
theorem comp2_w {elt : E} {tg tg1 : Tg} {k k1 : Ik} {es cs es1 cs1 : List E} {vs vs1 : List Nat} {fr : Bool} (hv : (tgS tg).all vs.contains = true) (hv1 : (tgS tg1).all vs1.contains = true) (hvv : vs1.all vs.contains = true) : ∀ (σ : L2.St) (H : Hp) (Q : VK), KF X.K H → tE X C W fr (.comp2 elt tg k es cs tg1 k1 es1 cs1 vs vs1) σ H Q →
    tLc2 (fun σ H R => tI X C W k es σ H fun J H' => KF X.K H' → R J H') (gK X.K tg) (tC' X C WF cs) (fun σ H R => tI X C WF k1 es1 σ H fun J H' => KF X.K H' → R J H') (gT X.K tg1) (tC' X C WF cs1) (tE X C WF false elt) vs vs1 σ H fun u H' => KF X.K H' → Q u H' := by
  have hv : ∀ j, j ∈ tgS tg → j ∈ vs := fun j hj => by simpa using List.all_eq_true.mp hv j hj
  have hv1 : ∀ j, j ∈ tgS tg1 → j ∈ vs1 := fun j hj => by simpa using List.all_eq_true.mp hv1 j hj
  have hvv : ∀ j, j ∈ vs1 → j ∈ vs := fun j hj => by simpa using List.all_eq_true.mp hvv j hj
  rintro σ H Q kf ⟨P0, α, ρ, f, r⟩
  rw [evE] at r
  refine ⟨P0, α, ρ, f, (Run.bd r).mono fun as ρ1 α1 H1 f1 e1 r1 => ?_⟩
  obtain ⟨ds, h1, r2⟩ := withA_run r1
  obtain ⟨items, h2, r3⟩ := Run.lift (Run.bd r2)
  have r4 := r3.here f1
  refine ⟨ds, items, h1, h2, fun us J hu hit kf1 p hp => ?_⟩
  split at r4
  · exact r4.elim
  · rename_i hno
    obtain ⟨hno1, hno2⟩ := Bool.or_eq_false_iff.mp (by simpa only [Bool.not_eq_true] using hno)
    obtain ⟨v, ρe, he1, r5⟩ := noEx_run r4
    obtain ⟨totals, ρ4, hcl, he2⟩ := bd_ok he1
    split at he2
    · rename_i hlen
      cases he2
      have hlen : totals.flatten.length < lim := of_decide_eq_true hlen
      have hlim := lim_line
      have hvs := any_ow hno1 f1
      refine ⟨fun i m H => i + m = items.length ∧ RepCs X.K H (fun _ => False) us ds ∧ ∃ acc, H p = some (.lst acc) ∧ ((∀ o, X.K.lookup p = some o → False) →
          ∃ α ρ accD xs, LpF X.K P0 p α1 H1 as us ds vs (wipe σ vs) ρ H α acc accD ∧ compL tg vs (evC C cs) _ (fun ρ' => sameD (rsAll ρ' as) (some ds)) (items.drop i) ρ = .ok xs ρ4 ∧ accD ++ xs.flatten = totals.flatten),
        ⟨items.length, by omega, (hu.now f1 h1).none.al (Al.upd hp), [], upd_same, fun hk => ⟨α1, wipeS ρ1 vs, [], totals, LpF.start f1 hu h1 hvs hno2 hp hk, hcl, rfl⟩⟩, ?_⟩
      rintro i m H2 ⟨him, hrc, acc, hacc, hF⟩
      have hit2 := hit H2 (fun _ => False) hrc (fun _ z => z.elim)
      cases hd : items[i]? with
      | none =>
        refine .inl ⟨hit2.2 i (by simpa using hd), fun kf2 => ?_⟩
        have hk : ∀ o, X.K.lookup p = some o → False := fun o e => by
          have := kf2.free _ _ e
          rw [hacc] at this
          cases this
        obtain ⟨α2, ρ2, accD, xs, l, hc2, ht2⟩ := hF hk
        rw [List.drop_eq_nil_of_le (by simpa using hd), compL_nil] at hc2
        cases hc2
        rw [List.flatten_nil, List.append_nil] at ht2
        rw [← ht2] at r5
        obtain ⟨g1, g2⟩ := l.done (fr := fr) (e1.nn hp) f1 hvs hp hk
        exact r5.at g1 l.ex _ g2
      | some d =>
        have hlt : i < items.length := (List.getElem?_eq_some_iff.mp hd).1
        refine .inr ⟨(hit2.1 i d hd).1, fun H' => i + 1 + (m - 1) = items.length ∧ RepCs X.K H' (fun _ => False) us ds ∧ ∃ acc, H' p = some (.lst acc) ∧ ((∀ o, X.K.lookup p = some o → False) →
          ∃ α ρ accD xs, LpF X.K P0 p α1 H1 as us ds vs (wipe σ vs) ρ H' α acc accD ∧ compL tg vs (evC C cs) _ (fun ρ' => sameD (rsAll ρ' as) (some ds)) (items.drop (i + 1)) ρ = .ok xs ρ4 ∧ accD ++ xs.flatten = totals.flatten), fun H' w => ⟨m - 1, by omega, w⟩, fun x H3 hy => ?_⟩
        intro kf3
        have al3 := ((hit2.1 i d hd).2 x H3 hy).1
        have hk : ∀ o, X.K.lookup p = some o → False := fun o e => by
          have := kf3.free _ _ e
          rw [al3 _ _ hacc] at this
          cases this
        obtain ⟨α2, ρ2, accD, xs, l, hc2, ht2⟩ := hF hk
        rw [drop_at hd] at hc2
        obtain ⟨ρb, b, ρc, hb1, hb2, hb3⟩ := compL_cons hc2
        have hitP := hit H2 _ l.reps l.fi.pu
        have hrx := ((hitP.1 i d hd).2 x H3 hy).2
        have l3 := l.grow al3
        refine l3.bind hv hb1 (Al.refl _) hrx fun σ2 f2 hσ hσl => ⟨wipe_same hv hσ hσl, _, α2, ρb, f2, Run.of_ok hb2 fun α5 H5 f5 e5 => ?_⟩
        have ws := wipe_same hv hσ hσl
        rcases hb3 with ⟨rfl, z, ρ3, xs', he3, hs3, hc3, rfl⟩ | ⟨rfl, hs3, hc3⟩
        · show ite _ _ _
          rw [if_pos rfl]
          obtain ⟨as1, ρd, ds1, items1, g1, g2, g3, g4, g5⟩ := inner_inv he3
          refine ⟨_, α5, ρc, f5, Run.of_ok g1 fun α6 H6 f6 e6 => ⟨ds1, items1, g2, g3, fun us1 J1 hu1 hit1 kf6 => ?_⟩⟩
          have e36 := e5.trans e6
          have hv6 : ∀ j, j ∈ vs → α6 j = none := fun j hj => by
            cases q : α6 j with
            | none => rfl
            | some a =>
              have := e36.le j a q
              rw [l.vs j hj] at this
              cases this
          have li : LpF X.K P0 p α1 H1 as1 us1 ds1 vs1 (wipe σ2 vs1) (wipeS ρd vs1) H6 α6 acc accD :=
            ⟨f6.wiped fun j hj => hv6 j (hvv j hj), e36.keep _ _ l3.at_ (fun i => (l3.fi.p0 p (.inr rfl)).2 i), l3.rp.ex1 e36, l3.ex.trans e36, hu1.wiped g4, by rw [rsAll_wipe g4]; exact g2, fun j hj => hv6 j (hvv j hj)⟩
          refine ⟨fun j m H => j + m = items1.length ∧ ∃ α ρ acc accD xs, LpF X.K P0 p α1 H1 as1 us1 ds1 vs1 (wipe σ2 vs1) ρ H α acc accD ∧ ArgRs X.K (fun b => P0 b ∨ b = p) α (wipe σ vs) H as us ∧ (∀ j, j ∈ vs → α j = none) ∧
              compL tg1 vs1 (evC C cs1) (evE C elt) (fun ρ'' => sameD (rsAll ρ'' as1) (some ds1)) (items1.drop j) ρ = .ok xs ρ3 ∧ accD ++ (xs ++ xs'.flatten) = totals.flatten,
            ⟨items1.length, by omega, α6, _, acc, accD, z, li, l3.ar.ex1 e36, hv6, g5, by rw [← ht2]; rfl⟩, ?_⟩
          rintro j n H7 ⟨hjn, α7, ρ7, acc7, accD7, xs7, l7, ar7, hv7, hc7, ht7⟩
          have hit7 := hit1 H7 _ l7.reps l7.fi.pu
          cases hd1 : items1[j]? with
          | none =>
            refine .inl ⟨hit7.2 j (by simpa using hd1), ?_⟩
            rw [List.drop_eq_nil_of_le (by simpa using hd1), compL_nil] at hc7
            cases hc7
            have hw := wipe_wipe hvv ws
            have f8 := l7.fi.wiped hv7
            rw [hw] at f8
            have l8 : LpF X.K P0 p α1 H1 as us ds vs (wipe σ vs) (wipeS ρ3 vs) H7 α7 acc7 accD7 := ⟨f8, l7.at_, l7.rp, l7.ex, ar7, by rw [rsAll_wipe hno2]; exact sameD_eq hs3, hv7⟩
            exact ⟨by omega, l8.reps.none, acc7, l8.at_, fun _ => ⟨α7, _, accD7, xs', l8, hc3, by rw [← ht7]; rfl⟩⟩
          | some d1 =>
            have hlt1 : j < items1.length := (List.getElem?_eq_some_iff.mp hd1).1
            refine .inr ⟨(hit7.1 j d1 hd1).1, fun H => j + 1 + (n - 1) = items1.length ∧ ∃ α ρ acc accD xs, LpF X.K P0 p α1 H1 as1 us1 ds1 vs1 (wipe σ2 vs1) ρ H α acc accD ∧ ArgRs X.K (fun b => P0 b ∨ b = p) α (wipe σ vs) H as us ∧ (∀ j, j ∈ vs → α j = none) ∧
              compL tg1 vs1 (evC C cs1) (evE C elt) (fun ρ'' => sameD (rsAll ρ'' as1) (some ds1)) (items1.drop (j + 1)) ρ = .ok xs ρ3 ∧ accD ++ (xs ++ xs'.flatten) = totals.flatten, fun H' w => ⟨n - 1, by omega, w⟩, fun y H8 hy8 => ?_⟩
            obtain ⟨al8, hrx8⟩ := (hit7.1 j d1 hd1).2 y H8 hy8
            rw [drop_at hd1] at hc7
            obtain ⟨ρb8, b8, ρc8, hb81, hb82, hb83⟩ := compL_cons hc7
            have l8 := l7.grow al8
            refine l8.bind hv1 hb81 (Al.refl _) hrx8 fun σ3 f9 hσ3 hσl3 => ⟨wipe_same hv1 hσ3 hσl3, _, α7, ρb8, f9, Run.of_ok hb82 fun α10 H10 f10 e10 => ?_⟩
            have ws3 := wipe_same hv1 hσ3 hσl3
            have nn : ∀ {α'' : Am} {H'' : Hp}, Ex1 α7 H8 α'' H'' → ∀ j, j ∈ vs → α'' j = none := fun {α'' H''} e j hj => by
              cases q : α'' j with
              | none => rfl
              | some a =>
                have := e.le j a q
                rw [hv7 j hj] at this
                cases this
            rcases hb83 with ⟨rfl, w, ρ11, xs11, he11, hs11, hc11, rfl⟩ | ⟨rfl, hs11, hc11⟩
            · show ite _ _ _
              rw [if_pos rfl]
              refine ⟨_, α10, ρc8, f10, Run.of_ok he11 fun α12 H12 f12 e12 u hu12 => ?_⟩
              have e8 := e10.trans e12
              have l12 := l8.turn ws3 f12 e8 g4 (sameD_eq hs11)
              have l13 := l12.push hp (OkV.rep hu12)
              refine ⟨acc7, l12.at_, ?_, by omega, α12, _, _, _, xs11, l13, ((ar7.ex1 (.al al8)).ex1 e8).bump, nn e8, hc11, by simp [← ht7]⟩
              have q1 := l12.rp.length
              have q2 := congrArg List.length ht7
              simp only [List.length_append, List.length_cons] at q2
              omega
            · show ite _ _ _
              rw [if_neg (by simp)]
              have l12 := l8.turn ws3 f10 e10 g4 (sameD_eq hs11)
              exact ⟨by omega, α10, _, acc7, accD7, xs7, l12, (ar7.ex1 (.al al8)).ex1 e10, nn e10, hc11, ht7⟩
        · show ite _ _ _
          rw [if_neg (by simp)]
          have l6 := l3.turn ws f5 e5 hno2 (sameD_eq hs3)
          exact ⟨by omega, l6.reps.none, acc, l6.at_, fun _ => ⟨α5, _, accD, xs, l6, hc3, ht2⟩⟩
    · cases he2
theorem sE_comp2 {elt : E} {tg tg1 : Tg} {k k1 : Ik} {es cs es1 cs1 : List E} {vs vs1 : List Nat} {pe ptg pit ptg1 pit1 : Expr} {pifs pifs1 : List Expr} {scope : Scope} {pos : Pos} {fr : Bool} (hc : X.calm = true) (hN : X.N.Nodup) (ok : BlkOk X.N X.env.scope scope (ownV S vs)) (hv : (tgS tg).all vs.contains = true) (hv1 : (tgS tg1).all vs1.contains = true) (hvv : vs1.all vs.contains = true)
    (hi : PI X ptg pit (tI X C W k es))
    (hg : ∀ (s : Shared) (H : Hp) (C : Addr) (cl : List (Str × Addr)) (fp : List Addr), PG (X.blk s H scope (compEnvC scope cl C X.env) fp) ptg (gT X.K tg))
    (ht : ∀ (s : Shared) (H : Hp) (C' : Addr) (cl : List (Str × Addr)) (fp : List Addr), PTs (X.blk s H scope (compEnvC scope cl C' X.env) fp) pifs (tC' X C WF cs))
    (hi1 : ∀ (s : Shared) (H : Hp) (C' : Addr) (cl : List (Str × Addr)) (fp : List Addr), PI (X.blk s H scope (compEnvC scope cl C' X.env) fp) ptg1 pit1 (tI X C WF k1 es1))
    (hg1 : ∀ (s : Shared) (H : Hp) (C : Addr) (cl : List (Str × Addr)) (fp : List Addr), PG (X.blk s H scope (compEnvC scope cl C X.env) fp) ptg1 (gT X.K tg1))
    (ht1 : ∀ (s : Shared) (H : Hp) (C' : Addr) (cl : List (Str × Addr)) (fp : List Addr), PTs (X.blk s H scope (compEnvC scope cl C' X.env) fp) pifs1 (tC' X C WF cs1))
    (he : ∀ (s : Shared) (H : Hp) (C' : Addr) (cl : List (Str × Addr)) (fp : List Addr), PE (X.blk s H scope (compEnvC scope cl C' X.env) fp) pe (tE X C WF false elt))
    (hs : ∀ x, foldedSetIterable pit X.env x = pure x) (hs1 : ∀ env x, foldedSetIterable pit1 env x = pure x) : PE X (.ListComp pe [⟨ptg, pit, pifs, 0⟩, ⟨ptg1, pit1, pifs1, 0⟩] scope pos) (tE X C W fr (.comp2 elt tg k es cs tg1 k1 es1 cs1 vs vs1)) := by
  refine pe_by (pe_lc2 (g := gK X.K tg) (g1 := gT X.K tg1) (vs1 := vs1) (wi1 := fun σ H R => tI X C WF k1 es1 σ H fun J H' => KF X.K H' → R J H') hc hN (pi_kf hi) ok (fun i h => by rw [own_vs]; simpa using List.all_eq_true.mp hvv i h) (fun s H C' cl fp => pg_kf (hg s H C' cl fp)) ht (fun s H C' cl fp => pi_kf (hi1 s H C' cl fp)) hg1 ht1 he hs hs1) ?_
  rw [own_vs]
  exact comp2_w hv hv1 hvv
end
end JK

end
section
set_option Elab.async false
set_option linter.all false
set_option autoImplicit false
set_option maxRecDepth 100000
set_option maxHeartbeats 2000000
/-! JkSnd: every expression that chkE takes runs as the evaluator says. -/
namespace JK
open PySem PySem.Spec L2
def isBO : Expr → Bool
  | .BoolOp .. => true
  | _ => false
def SndX (C : Cfg) (X : Cx) (W : WX) (e : E) (p : Expr) : Prop :=
  (∀ fr, (fr = true → freshE C.ff e = true) → PE X p (tE X C W fr e)) ∧ PE X p (tA X C W e) ∧ PT X p (tT X C W e) ∧ (isBO p = true → PW X p (tT X C W e))
def SndP (C : Cfg) (defs : String → Option Df) (k : Nat) (e : E) : Prop := ∀ (X : Cx) (W : WX) (S : Sc), Okx X C defs W S k → ∀ p, chkE S e p = true → SndX C X W e p
section
variable {X : Cx} {C : Cfg} {defs : String → Option Df} {W : WX} {S : Sc} {k : Nat}
def plainA : E → Bool
  | .bor _ => false | .ite _ _ _ => false
  | _ => true
theorem evA_plain {e : E} (h : plainA e = true) (ρ : Ev) : evA C e ρ = (evE C e ρ).bd fun d ρ1 => .ok (.val d) ρ1 := by
  cases e <;> first
    | (cases h; done)
    | (rw [evA]; done)
    | (rw [evA] <;> first | rfl | (intros; contradiction))
theorem snd_of {e : E} {p : Expr} (pa : plainA e = true) (pt : plainT e = true) (nb : isBO p = false) (hp : ∀ whole, isTrue p X.env whole = (do let v ← whole; standAt p.pos; holding [v] (PySem.truthy v))) (h : ∀ fr, (fr = true → freshE C.ff e = true) → PE X p (tE X C W fr e)) : SndX C X W e p :=
  ⟨h, sA_of (evA_plain pa) (h false (fun z => by cases z)), sT_val (evT_plain pt) hp (h false (fun z => by cases z)), fun z => by rw [nb] at z; cases z⟩
/-- .. whose value is never a new list -/
theorem snd_old {e : E} {p : Expr} (pa : plainA e = true) (pt : plainT e = true) (nb : isBO p = false) (hf : freshE C.ff e = false) (hp : ∀ whole, isTrue p X.env whole = (do let v ← whole; standAt p.pos; holding [v] (PySem.truthy v))) (h : PE X p (tE X C W false e)) : SndX C X W e p :=
  snd_of pa pt nb hp fun fr z => by
    cases fr with
    | false => exact h
    | true => rw [hf] at z; cases z rfl
theorem SndX.e {e : E} {p : Expr} (h : SndX C X W e p) : PE X p (tE X C W false e) := h.1 false fun z => by cases z
theorem SndX.a {e : E} {p : Expr} (h : SndX C X W e p) : PE X p (tA X C W e) := h.2.1
theorem SndX.t {e : E} {p : Expr} (h : SndX C X W e p) : PT X p (tT X C W e) := h.2.2.1
theorem okx_units (o : Okx X C defs W S k) : X.A.units + 65 < cLine := by have := o.room.un; omega
theorem sT_bor {i : Nat} {x : Str} {pos : Pos} (o : Okx X C defs W S k) (h : visB S i x = true) : PT X (.Name x pos) (tT X C W (.bor i)) := by
  refine pt_by (pt_truth (recv_bor o h) fun _ => rfl) ?_
  rintro σ H Q kf ⟨P0, α, ρ, f, r⟩
  rw [evT] at r
  unfold getS at r
  cases e : ρ[i]? with
  | none => rw [e] at r; exact r.elim
  | some s =>
    rw [e] at r
    have go : ∀ v d, σ[i]? = some (some v) → RepC X.K H (PU P0 α) v d → Run W X.K X.mg P0 σ α H (match truthy d with | some b => R.ok b ρ | none => .er "truth") (fun b ρ' α' H' => Q b H') → tVar i σ H fun u H1 => ∃ c, TruV X.K u H1 c ∧ (KF X.K H1 → Q c H1) := fun v d h1 h2 r => by
      cases ht : JK.truthy d with
      | none => rw [ht] at r; exact r.elim
      | some c =>
        rw [ht] at r
        exact ⟨v, h1, c, tru_of h2 ht, fun _ => r.here f⟩
    cases s with
    | un => exact r.elim
    | xn _ _ => exact r.elim
    | sh d =>
      obtain ⟨v, h1, h2⟩ := f.sh i d e
      exact go v d h1 (.cl h2) r
    | ow d =>
      obtain ⟨a, h1, h2, xs, ds, rfl, h4, h5⟩ := f.ow i d e
      exact go _ _ h2 (.top (.inl h4) h5) r
theorem chkEs_cons {e : E} {es : List E} {ps : List Expr} (h : chkEs S (e :: es) ps = true) : ∃ p qs, ps = p :: qs ∧ nonStar p = true ∧ chkE S e p = true ∧ chkEs S es qs = true := by
  cases ps with
  | nil => simp [chkEs] at h
  | cons p qs =>
    rw [chkEs] at h
    obtain ⟨h1, h2⟩ := dec2 h
    obtain ⟨h3, h4⟩ := dec2 h2
    exact ⟨p, qs, rfl, h1, h3, h4⟩
theorem chkEs_nil {ps : List Expr} (h : chkEs S [] ps = true) : ps = [] := by
  cases ps with
  | nil => rfl
  | cons p qs => simp [chkEs] at h
theorem chkEs_len : ∀ {es : List E} {ps : List Expr}, chkEs S es ps = true → es.length = ps.length ∧ ps.all nonStar = true
  | [], ps, h => by rw [chkEs_nil h]; exact ⟨rfl, rfl⟩
  | e :: es, ps, h => by
    obtain ⟨p, qs, rfl, h1, _, h3⟩ := chkEs_cons h
    obtain ⟨q1, q2⟩ := chkEs_len h3
    exact ⟨by rw [List.length_cons, List.length_cons, q1], by rw [List.all_cons, h1, q2]; rfl⟩
theorem snd_es (o : Okx X C defs W S k) : ∀ {es : List E} {ps : List Expr}, (∀ e, e ∈ es → SndP C defs k e) → chkEs S es ps = true → PA X ps (tEs X C W es) ∧ PA X ps (tAs X C W es)
  | [], ps, _, h => by
    rw [chkEs_nil h]
    exact ⟨sEs_nil, sAs_nil⟩
  | e :: es, ps, ih, h => by
    obtain ⟨p, qs, rfl, h1, h2, h3⟩ := chkEs_cons h
    obtain ⟨q1, q2⟩ := snd_es o (fun e' he => ih e' (List.mem_cons_of_mem _ he)) h3
    have z := ih e (List.mem_cons_self ..) X W S o p h2
    exact ⟨sEs_cons h1 z.e q1, sAs_cons h1 z.a q2⟩
/-- the context of a comprehension's block -/
theorem okx_blk (o : Okx X C defs W S k) (s : Shared) (H : Hp) (C' : Addr) (cl : List (Str × Addr)) (fp : List Addr) (scope : Scope) : Okx (X.blk s H scope (compEnvC scope cl C' X.env) fp) C defs WF (blkS S scope) k :=
  ⟨o.N, o.nd, by show relS scope X.env.scope = relS scope S.sc; rw [o.sc], fun x h => h, o.calm, fun u s' ⟨a, B, sI, pins, σ, H, cls, d, e, I, nb, up, sky, na, os, ag, w⟩ => w.elim, o.tb, o.room, o.df, o.xs, o.rs, o.ge⟩
theorem evT_yes (C : Cfg) (ρ : Ev) : evC C [] ρ = .ok true ρ := by rw [evC]
theorem snd_cs (o : Okx X C defs W S k) {cs : List E} {ps : List Expr} (ih : ∀ e, e ∈ cs → SndP C defs k e) (h : chkC S cs ps = true) : PTs X ps (tC' X C W cs) := by
  unfold chkC at h
  split at h
  · refine pts_weak pts_nil ?_
    rintro σ H Q ⟨P0, α, ρ, f, r⟩
    rw [evC] at r
    exact r.here f
  · rename_i e p
    refine pts_weak (pts_one (ih e (List.mem_singleton.mpr rfl) X W S o p h).t) ?_
    rintro σ H Q ⟨P0, α, ρ, f, r⟩
    rw [evC] at r
    exact ⟨P0, α, ρ, f, r⟩
  · cases h
theorem snd_o (o : Okx X C defs W S k) {lo : List E} {p : Option Expr} (ih : ∀ e, e ∈ lo → SndP C defs k e) (h : chkO S lo p = true) : PO X p (tO X C W lo) := by
  unfold chkO at h
  split at h
  · exact sO_nil
  · exact sO_one (ih _ (List.mem_singleton.mpr rfl) X W S o _ h).e
  · cases h
theorem snd_it (o : Okx X C defs W S k) {kk : Ik} {es : List E} {ptg pit : Expr} {ps : List Expr} (ih : ∀ e, e ∈ es → SndP C defs k e) (hi : itArgs S kk es.length ptg pit = some ps) (h : chkEs S es ps = true) : PI X ptg pit (tI X C W kk es) ∧ (∀ env x, foldedSetIterable pit env x = pure x) := by
  unfold itArgs at hi
  split at hi
  · split at hi
    · cases hi
    · rename_i a pit' b c d e' f hset
      split at hi
      · rename_i h1
        cases hi
        obtain ⟨e, es, rfl⟩ : ∃ e es', es = e :: es' := by
          cases es with
          | nil => cases h1
          | cons e es => exact ⟨e, es, rfl⟩
        have : es = [] := by
          cases es with
          | nil => rfl
          | cons _ _ => simp at h1
        subst this
        obtain ⟨p, qs, e1, h2, h3, h4⟩ := chkEs_cons h
        cases e1
        refine ⟨pi_seqI (ih e (List.mem_singleton.mpr rfl) X W S o _ h3).a, fun env x => ?_⟩
        cases pit' <;> first | rfl | (exact absurd rfl (hset _ _ _))
      · cases hi
  · split at hi
    · rename_i x _ ps' _
      split at hi
      · rename_i c
        cases hi
        obtain ⟨c1, c2⟩ := dec2 c
        obtain ⟨c3, c4⟩ := dec2 c2
        have c3 : es.length = ps.length := of_decide_eq_true c3
        obtain ⟨rfl, g, d⟩ := gl_of o c1
        obtain ⟨_, q2⟩ := snd_es o ih h
        have hns := (chkEs_len h).2
        refine ⟨?_, fun env x => rfl⟩
        rcases Bool.or_eq_true_iff.mp c4 with c4 | c4
        · have c4 : es.length = 1 := of_decide_eq_true c4
          obtain ⟨p1, rfl⟩ : ∃ p1, ps = [p1] := by
            cases ps with
            | nil => rw [c4] at c3; cases c3
            | cons p1 r =>
              cases r with
              | nil => exact ⟨p1, rfl⟩
              | cons _ _ => rw [c4] at c3; simp at c3
          exact pi_rngI1 g (o.tb.bt _ (by decide)) (by simpa using hns) c4 q2
        · have c4 : es.length = 2 := of_decide_eq_true c4
          obtain ⟨p1, p2, rfl⟩ : ∃ p1 p2, ps = [p1, p2] := by
            rcases ps with _ | ⟨p1, _ | ⟨p2, _ | ⟨_, _⟩⟩⟩
            · rw [c4] at c3; cases c3
            · rw [c4] at c3; cases c3
            · exact ⟨p1, p2, rfl⟩
            · rw [c4] at c3; simp at c3
          have hns : nonStar p1 = true ∧ nonStar p2 = true := by simpa using hns
          exact pi_rngI2 g (o.tb.bt _ (by decide)) hns.1 hns.2 c4 q2
      · cases hi
    · cases hi
  · split at hi
    · split at hi
      · rename_i c
        cases hi
        obtain ⟨c1, c2⟩ := dec2 c
        obtain ⟨c3, c4⟩ := dec2 c2
        have c3 : es.length = ps.length := of_decide_eq_true c3
        have c4 : es.length = 2 := of_decide_eq_true c4
        obtain ⟨_, q2⟩ := snd_es o ih h
        have hns := (chkEs_len h).2
        refine ⟨?_, fun env x => rfl⟩
        obtain ⟨p1, p2, rfl⟩ : ∃ p1 p2, ps = [p1, p2] := by
          rcases ps with _ | ⟨p1, _ | ⟨p2, _ | ⟨_, _⟩⟩⟩
          · rw [c4] at c3; cases c3
          · rw [c4] at c3; cases c3
          · exact ⟨p1, p2, rfl⟩
          · rw [c4] at c3; simp at c3
        have hns : nonStar p1 = true ∧ nonStar p2 = true := by simpa using hns
        exact pi_zipI o c1 hns.1 hns.2 c4 q2
      · cases hi
    · cases hi
  · split at hi
    · split at hi
      · rename_i c
        cases hi
        obtain ⟨c1, c2⟩ := dec2 c
        obtain ⟨c3, c4⟩ := dec2 c2
        have c3 : es.length = ps.length := of_decide_eq_true c3
        have c4 : es.length = 1 := of_decide_eq_true c4
        obtain ⟨_, q2⟩ := snd_es o ih h
        have hns := (chkEs_len h).2
        refine ⟨?_, fun env x => rfl⟩
        obtain ⟨p1, rfl⟩ : ∃ p1, ps = [p1] := by
          rcases ps with _ | ⟨p1, _ | ⟨_, _⟩⟩
          · rw [c4] at c3; cases c3
          · exact ⟨p1, rfl⟩
          · rw [c4] at c3; simp at c3
        exact pi_enumI o c1 (by simpa using hns) c4 q2
      · cases hi
    · cases hi
  · cases hi
end
end JK

end
section
set_option Elab.async false
set_option linter.all false
set_option autoImplicit false
set_option maxRecDepth 100000
set_option maxHeartbeats 4000000
/-! JkSnd2: the recursion. -/
namespace JK
open PySem PySem.Spec L2
section
variable {C : Cfg} {defs : String → Option Df} {k : Nat}
theorem fold_it {S : Sc} {kk : Ik} {n : Nat} {ptg pit : Expr} {ps : List Expr} (hi : itArgs S kk n ptg pit = some ps) : ∀ env x, foldedSetIterable pit env x = pure x := fun env x => by
  cases pit <;> first | rfl | (cases kk <;> first | (cases hi; done) | (cases ptg <;> cases hi; done))
theorem one_of {α : Type} {n : Nat} {qs : List α} (h : n = 1) (q : n = qs.length) : ∃ x, qs = [x] := by
  subst h
  rcases qs with _ | ⟨x, _ | ⟨_, _⟩⟩
  · cases q
  · exact ⟨x, rfl⟩
  · simp at q
theorem snd_rg {b : Bi} {mk : List D → D} {es : List E} {X : Cx} {W : WX} {S : Sc} (o : Okx X C defs W S k) {y : Str} {p pos : Pos} {qs : List Expr} (ih : ∀ e, e ∈ es → SndP C defs k e) (hy : glB S "range" y = true) (h : chkEs S es qs = true) :
    PRg X (.Call (.Name y p) qs [] pos) (tRg X C W es) ∨ ((es.length ≠ 1 ∧ es.length ≠ 2)) := by
  rcases es with _ | ⟨e, _ | ⟨e2, _ | ⟨e3, r⟩⟩⟩
  · exact .inr ⟨by simp, by simp⟩
  · obtain ⟨q, qs', rfl, h1, h2, h3⟩ := chkEs_cons h
    rw [chkEs_nil h3]
    exact .inl (sRg1 o hy h1 (ih e (by simp) X W S o q h2).a)
  · obtain ⟨q, qs', rfl, h1, h2, h3⟩ := chkEs_cons h
    obtain ⟨q2, qs', rfl, h4, h5, h6⟩ := chkEs_cons h3
    rw [chkEs_nil h6]
    exact .inl (sRg2 o hy h1 h4 (ih e (by simp) X W S o q h2).a (ih e2 (by simp) X W S o q2 h5).a)
  · exact .inr ⟨by simp, by simp⟩
theorem snd_bi {b : Bi} {es : List E} {X : Cx} {W : WX} {S : Sc} (o : Okx X C defs W S k) {p : Expr} (ih : ∀ e, e ∈ es → SndP C defs k e) (h : chkE S (.bi b es) p = true) : SndX C X W (.bi b es) p := by
  unfold chkE at h
  split at h
  · rename_i x p1 ps pos
    refine snd_of rfl rfl rfl (fun _ => rfl) fun fr hfr => ?_
    split at h
    · split at h
      · obtain ⟨h1, h2⟩ := dec2 h
        obtain ⟨h3, h4⟩ := dec2 h1
        obtain ⟨h5, h6⟩ := dec2 h2
        have h5 : es.length = 1 := of_decide_eq_true h5
        obtain ⟨q1, q2⟩ := chkEs_len h6
        obtain ⟨q, rfl⟩ := one_of h5 q1
        exact sE_sset o h3 h4 h5 ⟨q, rfl, by simpa using q2⟩ (snd_es o ih h6).2
      · cases h
    · split at h
      · obtain ⟨h1, h2⟩ := dec2 h
        obtain ⟨h3, h4⟩ := dec2 h1
        obtain ⟨h5, h6⟩ := dec2 h2
        have h5 : es.length = 1 := of_decide_eq_true h5
        obtain ⟨q1, q2⟩ := chkEs_len h6
        obtain ⟨q, rfl⟩ := one_of h5 q1
        cases fr with
        | true => exact absurd (hfr rfl) (by simp [freshE])
        | false => exact sE_lset o h3 h4 h5 ⟨q, rfl, by simpa using q2⟩ (snd_es o ih h6).2
      · cases h
    · split at h
      · obtain ⟨h1, h2⟩ := dec2 h
        obtain ⟨h3, h4⟩ := dec2 h1
        obtain ⟨h5, h6⟩ := dec2 h2
        rcases snd_rg (b := .lrng) (mk := .list) (p := _) (pos := _) o ih h4 h6 with z | z
        · exact sE_lrng o h3 rfl z
        · exact absurd h5 (by simp [z.1, z.2])
      · cases h
    · split at h
      · obtain ⟨h1, h2⟩ := dec2 h
        obtain ⟨h3, h4⟩ := dec2 h1
        obtain ⟨h5, h6⟩ := dec2 h2
        rcases snd_rg (b := .trng) (mk := .tuple) (p := _) (pos := _) o ih h4 h6 with z | z
        · exact sE_trng o h3 rfl z
        · exact absurd h5 (by simp [z.1, z.2])
      · cases h
    · obtain ⟨h1, h2⟩ := dec2 h
      obtain ⟨h3, h4⟩ := dec2 h2
      obtain ⟨h5, h6⟩ := dec2 h3
      have h6 : es.length ≠ 0 := of_decide_eq_true h6
      obtain ⟨q1, q2⟩ := chkEs_len h4
      obtain ⟨q, qs, rfl⟩ : ∃ q qs, ps = q :: qs := by
        cases ps with
        | nil => exact absurd q1 h6
        | cons q qs => exact ⟨q, qs, rfl⟩
      obtain ⟨n1, n2⟩ := dec2 (show (nonStar q && qs.all nonStar) = true from q2)
      obtain ⟨rfl, g, d⟩ := gl_of o h1
      have ha := (snd_es o ih h4).2
      refine sE_bi ha ?_
      cases b with
      | len => exact pe_callB biLen_ok g (o.tb.bt _ (by decide)) (by decide +kernel) ha (by decide +kernel) d (star_cons n1) (star_any n2)
      | abs => exact pe_callB biAbs_ok g (o.tb.bt _ (by decide)) (by decide +kernel) ha (by decide +kernel) d (star_cons n1) (star_any n2)
      | int => exact pe_callTy biInt_ok g (o.tb.bt _ (by decide)) (by decide +kernel) ha (by decide +kernel) d (star_cons n1) (star_any n2)
      | sum => exact pe_callB (biSum_ok o.calm) g (o.tb.bt _ (by decide)) (by decide +kernel) ha (by decide +kernel) d (star_cons n1) (star_any n2)
      | any => exact pe_callB (biAny_ok o.calm) g (o.tb.bt _ (by decide)) (by decide +kernel) ha (by decide +kernel) d (star_cons n1) (star_any n2)
      | all => exact pe_callB (biAll_ok o.calm) g (o.tb.bt _ (by decide)) (by decide +kernel) ha (by decide +kernel) d (star_cons n1) (star_any n2)
      | max => exact pe_callB (biMax_ok o.calm (by have := o.room.un; omega)) g (o.tb.bt _ (by decide)) (by decide +kernel) ha (by decide +kernel) d (star_cons n1) (star_any n2)
      | min => exact pe_callB (biMin_ok o.calm (by have := o.room.un; omega)) g (o.tb.bt _ (by decide)) (by decide +kernel) ha (by decide +kernel) d (star_cons n1) (star_any n2)
      | sorted => exact pe_callB biSorted_ok g (o.tb.bt _ (by decide)) (by decide +kernel) ha (by decide +kernel) d (star_cons n1) (star_any n2)
      | tuple => exact pe_callTy biTuple_ok g (o.tb.bt _ (by decide)) (by decide +kernel) ha (by decide +kernel) d (star_cons n1) (star_any n2)
      | list => exact pe_callTy biList_ok g (o.tb.bt _ (by decide)) (by decide +kernel) ha (by decide +kernel) d (star_cons n1) (star_any n2)
      | _ => first | contradiction | (exact absurd h5 (by decide))
  · cases h
theorem snd_pop {i : Nat} {es : List E} {X : Cx} {W : WX} {S : Sc} (o : Okx X C defs W S k) {p : Expr} (ih : ∀ e, e ∈ es → SndP C defs k e) (h : chkE S (.pop i es) p = true) : SndX C X W (.pop i es) p := by
  unfold chkE at h
  split at h
  · obtain ⟨h1, h2⟩ := dec2 h
    obtain ⟨h3, h4⟩ := dec2 h2
    obtain ⟨h5, h6⟩ := dec2 h4
    obtain ⟨h7, h8⟩ := dec2 h6
    have h3 := of_decide_eq_true h3
    subst h3
    refine snd_old rfl rfl rfl rfl (fun _ => rfl) ?_
    rcases es with _ | ⟨e, _ | ⟨e2, r⟩⟩
    · rw [chkEs_nil h8]
      exact sE_pop0 o h1 h7
    · obtain ⟨q, qs, rfl, g1, g2, g3⟩ := chkEs_cons h8
      rw [chkEs_nil g3]
      exact sE_pop1 o h1 h7 g1 (ih e (by simp) X W S o q g2).e
    · simp at h5
  · cases h
theorem snd_call {f : String} {es : List E} {X : Cx} {W : WX} {S : Sc} (o : Okx X C defs W S k) {p : Expr} (ih : ∀ e, e ∈ es → SndP C defs k e) (h : chkE S (.call f es) p = true) : SndX C X W (.call f es) p := by
  unfold chkE at h
  split at h
  · obtain ⟨h1, h2⟩ := dec2 h
    obtain ⟨h3, h4⟩ := dec2 h1
    obtain ⟨q1, q2⟩ := chkEs_len h2
    exact snd_of rfl rfl rfl (fun _ => rfl) fun fr hfr => sE_call o h3 h4 q1 q2 hfr (snd_es o ih h2).2
  · cases h
theorem snd_isi {t : String} {a : E} {X : Cx} {W : WX} {S : Sc} (o : Okx X C defs W S k) {p : Expr} (ih : SndP C defs k a) (h : chkE S (.isi t a) p = true) : SndX C X W (.isi t a) p := by
  unfold chkE at h
  split at h
  · obtain ⟨h1, h2⟩ := dec2 h
    obtain ⟨h3, h4⟩ := dec2 h1
    obtain ⟨h5, h6⟩ := dec2 h3
    obtain ⟨h7, h8⟩ := dec2 h2
    exact snd_old rfl rfl rfl rfl (fun _ => rfl) (sE_isi o h5 h6 (by simpa using h4) h7 (ih X W S o _ h8).a)
  · cases h
theorem snd_comp {elt : E} {tg : Tg} {kk : Ik} {es cs : List E} {vs : List Nat} {X : Cx} {W : WX} {S : Sc} (o : Okx X C defs W S k) {p : Expr} (ihs : ∀ e, e ∈ es → SndP C defs k e) (ihc : ∀ e, e ∈ cs → SndP C defs k e) (ih : SndP C defs k elt) (h : chkE S (.comp elt tg kk es cs vs) p = true) :
    SndX C X W (.comp elt tg kk es cs vs) p := by
  unfold chkE at h
  split at h
  · split at h
    · obtain ⟨h1, h2⟩ := dec2 h
      obtain ⟨h3, h4⟩ := dec2 h1
      obtain ⟨h5, h6⟩ := dec2 h3
      obtain ⟨h7, h8⟩ := dec2 h2
      obtain ⟨h9, h10⟩ := dec2 h8
      split at h7
      · rename_i ps hps
        obtain ⟨g1, g2⟩ := snd_it o ihs hps h7
        exact snd_of rfl rfl rfl (fun _ => rfl) fun fr hfr => sE_comp o.calm o.nd (by rw [o.N, o.sc]; exact blkOk_by h5) h6 g1 (fun s H C' cl fp => pg_any (okx_blk o s H C' cl fp _) h4)
          (fun s H C' cl fp => snd_cs (okx_blk o s H C' cl fp _) ihc h9) (fun s H C' cl fp => (ih _ _ _ (okx_blk o s H C' cl fp _) _ h10).e) (g2 _)
      · cases h7
    · cases h
  · cases h
theorem snd_comp2 {elt : E} {tg tg1 : Tg} {kk k1 : Ik} {es cs es1 cs1 : List E} {vs vs1 : List Nat} {X : Cx} {W : WX} {S : Sc} (o : Okx X C defs W S k) {p : Expr} (ihs : ∀ e, e ∈ es → SndP C defs k e) (ihc : ∀ e, e ∈ cs → SndP C defs k e) (ihs1 : ∀ e, e ∈ es1 → SndP C defs k e) (ihc1 : ∀ e, e ∈ cs1 → SndP C defs k e) (ih : SndP C defs k elt)
    (h : chkE S (.comp2 elt tg kk es cs tg1 k1 es1 cs1 vs vs1) p = true) : SndX C X W (.comp2 elt tg kk es cs tg1 k1 es1 cs1 vs vs1) p := by
  unfold chkE at h
  split at h
  · split at h
    · obtain ⟨h1, h2⟩ := dec2 h
      obtain ⟨h3, h4⟩ := dec2 h1
      obtain ⟨h5, h6⟩ := dec2 h3
      obtain ⟨h7, h8⟩ := dec2 h5
      obtain ⟨h9, h10⟩ := dec2 h4
      obtain ⟨h11, h12⟩ := dec2 h9
      obtain ⟨h13, h14⟩ := dec2 h2
      obtain ⟨h15, h16⟩ := dec2 h13
      obtain ⟨h17, h18⟩ := dec2 h14
      obtain ⟨h19, h20⟩ := dec2 h17
      split at h15
      · rename_i ps hps
        split at h16
        · rename_i ps1 hps1
          obtain ⟨g1, g2⟩ := snd_it o ihs hps h15
          exact snd_of rfl rfl rfl (fun _ => rfl) fun fr hfr => sE_comp2 o.calm o.nd (by rw [o.N, o.sc]; exact blkOk_by h7) h8 h12 h10 g1 (fun s H C' cl fp => pg_any (okx_blk o s H C' cl fp _) h6)
            (fun s H C' cl fp => snd_cs (okx_blk o s H C' cl fp _) ihc h19) (fun s H C' cl fp => (snd_it (okx_blk o s H C' cl fp _) ihs1 hps1 h16).1) (fun s H C' cl fp => pg_any (okx_blk o s H C' cl fp _) h11)
            (fun s H C' cl fp => snd_cs (okx_blk o s H C' cl fp _) ihc1 h20) (fun s H C' cl fp => (ih _ _ _ (okx_blk o s H C' cl fp _) _ h18).e) (g2 _) (fold_it hps1)
        · cases h16
      · cases h15
    · cases h
  · cases h
end
end JK

end
section
set_option Elab.async false
set_option linter.all false
set_option autoImplicit false
set_option maxRecDepth 100000
set_option maxHeartbeats 4000000
/-! JkSnd3: the recursion, at last. -/
namespace JK
open PySem PySem.Spec L2
section
variable {C : Cfg} {defs : String → Option Df} {k : Nat}
theorem rep_nil {K : PySem.W.Frag} (H : Hp) (P : Addr → Prop) : Rep K H P .non .none := .non
theorem snd_bo {op : BoolOp} {pb : Expr} {r : List Expr} {pos : Pos} {X : Cx} {W : WX} {e : E} (hop : op = .And ∨ op = .Or) (h : SndX C X W e (tailB op pb r pos)) : PE X (.BoolOp op (pb :: r) pos) (tE X C W false e) ∧ PW X (.BoolOp op (pb :: r) pos) (tT X C W e) := by
  cases r with
  | nil => exact ⟨pe_one h.e, by rcases hop with rfl | rfl; exact pw_and1 h.t; exact pw_or1 h.t⟩
  | cons c r => exact ⟨h.e, h.2.2.2 rfl⟩
mutual
theorem sndP : ∀ e : E, SndP C defs k e
  | .var i => fun X W S o p h => by
    unfold chkE at h
    split at h
    · exact snd_old rfl rfl rfl rfl (fun _ => rfl) (sE_var o h)
    · cases h
  | .bor i => fun X W S o p h => by
    unfold chkE at h
    split at h
    · refine ⟨fun fr _ => pe_false ?_, sA_bor o h, sT_bor o h, fun z => by cases z⟩
      rintro σ H Q ⟨P0, α, ρ, f, r⟩
      rw [evE] at r
      exact r
    · cases h
  | .non => fun X W S o p h => by
    unfold chkE at h
    split at h
    · exact snd_old rfl rfl rfl rfl (fun _ => rfl) (sE_const pe_non (fun ρ => by rw [evE]) fun _ _ => .non)
    · cases h
  | .bl b => fun X W S o p h => by
    unfold chkE at h
    split at h
    · have := eq_of_beq h
      subst this
      exact snd_old rfl rfl rfl rfl (fun _ => rfl) (sE_const pe_bl (fun ρ => by rw [evE]) fun _ _ => .bl _)
    · cases h
  | .int i => fun X W S o p h => by
    unfold chkE at h
    split at h
    · have := of_decide_eq_true h
      subst this
      exact snd_old rfl rfl rfl rfl (fun _ => rfl) (sE_const pe_int (fun ρ => by rw [evE]) fun _ _ => .int _)
    · cases h
  | .str s => fun X W S o p h => by
    unfold chkE at h
    split at h
    · have := of_decide_eq_true h
      subst this
      exact snd_old rfl rfl rfl rfl (fun _ => rfl) (sE_const pe_str (fun ρ => by rw [evE]) fun _ _ => .str _)
    · cases h
  | .glo x => fun X W S o p h => by
    unfold chkE at h
    split at h
    · exact snd_old rfl rfl rfl rfl (fun _ => rfl) (sE_glo o h)
    · cases h
  | .op q a b => fun X W S o p h => by
    unfold chkE at h
    split at h
    · obtain ⟨h1, h2⟩ := dec2 h
      obtain ⟨h3, h4⟩ := dec2 h2
      have h1 := of_decide_eq_true h1
      subst h1
      exact snd_of rfl rfl rfl (fun _ => rfl) fun fr _ => sE_op (sndP a X W S o _ h3).a (sndP b X W S o _ h4).a
    · cases h
  | .neg a => fun X W S o p h => by
    unfold chkE at h
    split at h
    · exact snd_old rfl rfl rfl rfl (fun _ => rfl) (sE_neg (sndP a X W S o _ h).e)
    · cases h
  | .inv a => fun X W S o p h => by
    unfold chkE at h
    split at h
    · exact snd_old rfl rfl rfl rfl (fun _ => rfl) (sE_inv (sndP a X W S o _ h).e)
    · cases h
  | .not a => fun X W S o p h => by
    unfold chkE at h
    split at h
    · have z := sndP a X W S o _ h
      refine ⟨fun fr hf => ?_, sA_of (evA_plain rfl) (sE_not z.a), sT_not z.t, fun z => by cases z⟩
      cases fr with
      | false => exact sE_not z.a
      | true => cases hf rfl
    · cases h
  | .and a b => fun X W S o p h => by
    unfold chkE at h
    split at h
    · obtain ⟨h1, h2⟩ := dec2 h
      have z := sndP a X W S o _ h1
      obtain ⟨q1, q2⟩ := snd_bo (.inl rfl) (sndP b X W S o _ h2)
      refine ⟨fun fr hf => ?_, sA_of (evA_plain rfl) (sE_and z.e q1), (sT_and z.t q2).pt, fun _ => sT_and z.t q2⟩
      cases fr with
      | false => exact sE_and z.e q1
      | true => cases hf rfl
    · cases h
  | .or a b => fun X W S o p h => by
    unfold chkE at h
    split at h
    · obtain ⟨h1, h2⟩ := dec2 h
      have z := sndP a X W S o _ h1
      obtain ⟨q1, q2⟩ := snd_bo (.inr rfl) (sndP b X W S o _ h2)
      refine ⟨fun fr hf => ?_, sA_of (evA_plain rfl) (sE_or z.e q1), (sT_or z.t q2).pt, fun _ => sT_or z.t q2⟩
      cases fr with
      | false => exact sE_or z.e q1
      | true => cases hf rfl
    · cases h
  | .cmp q a b => fun X W S o p h => by
    unfold chkE at h
    split at h
    · obtain ⟨h1, h2⟩ := dec2 h
      obtain ⟨h3, h4⟩ := dec2 h2
      obtain ⟨h5, h6⟩ := dec2 h1
      have h5 := of_decide_eq_true h5
      subst h5
      have hm := (Bool.not_eq_true' _).mp h6
      have za := sndP a X W S o _ h3
      have zb := sndP b X W S o _ h4
      refine ⟨fun fr hf => ?_, sA_of (evA_plain rfl) (sE_cmp (okx_units o) hm za.a zb.a), sT_cmp (okx_units o) hm za.a zb.a, fun z => by cases z⟩
      cases fr with
      | false => exact sE_cmp (okx_units o) hm za.a zb.a
      | true => cases hf rfl
    · cases h
  | .chain q q' a b c => fun X W S o p h => by
    unfold chkE at h
    split at h
    · obtain ⟨h1, h2⟩ := dec2 h
      obtain ⟨h3, h4⟩ := dec2 h2
      obtain ⟨h5, h6⟩ := dec2 h4
      obtain ⟨h7, h8⟩ := dec2 h1
      obtain ⟨h9, h10⟩ := dec2 h7
      have h9 := of_decide_eq_true h9
      have h10 := of_decide_eq_true h10
      subst h9 h10
      have hm := (Bool.not_eq_true' _).mp h8
      have za := sndP a X W S o _ h3
      have zb := sndP b X W S o _ h5
      have zc := sndP c X W S o _ h6
      refine ⟨fun fr hf => ?_, sA_of (evA_plain rfl) (sE_chain (okx_units o) hm za.e zb.e zc.e), sT_chain (okx_units o) hm za.e zb.e zc.e, fun z => by cases z⟩
      cases fr with
      | false => exact sE_chain (okx_units o) hm za.e zb.e zc.e
      | true => cases hf rfl
    · cases h
  | .ite c a b => fun X W S o p h => by
    unfold chkE at h
    split at h
    · obtain ⟨h1, h2⟩ := dec2 h
      obtain ⟨h3, h4⟩ := dec2 h2
      have zc := sndP c X W S o _ h1
      have za := sndP a X W S o _ h3
      have zb := sndP b X W S o _ h4
      refine ⟨fun fr hf => sE_ite zc.t (za.1 fr fun q => ?_) (zb.1 fr fun q => ?_), sA_ite zc.t za.a zb.a, sT_ite zc.t za.t zb.t, fun z => by cases z⟩
      · have := hf q
        rw [freshE] at this
        exact (dec2 this).1
      · have := hf q
        rw [freshE] at this
        exact (dec2 this).2
    · cases h
  | .call f es => fun X W S o p h => snd_call o (sndL es) h
  | .bi b es => fun X W S o p h => snd_bi o (sndL es) h
  | .isi t a => fun X W S o p h => snd_isi o (sndP a) h
  | .tup es => fun X W S o p h => by
    unfold chkE at h
    split at h
    · obtain ⟨h1, h2⟩ := dec2 h
      exact snd_old rfl rfl rfl rfl (fun _ => rfl) (sE_tup (of_decide_eq_true h1) (snd_es o (sndL es) h2).1)
    · cases h
  | .lst es => fun X W S o p h => by
    unfold chkE at h
    split at h
    · obtain ⟨h1, h2⟩ := dec2 h
      exact snd_of rfl rfl rfl (fun _ => rfl) fun fr _ => sE_lst (of_decide_eq_true h1) (snd_es o (sndL es) h2).1
    · cases h
  | .dis ks vs => fun X W S o p h => by
    unfold chkE at h
    cases h
  | .sub a b => fun X W S o p h => by
    unfold chkE at h
    split at h
    · obtain ⟨h1, h2⟩ := dec2 h
      obtain ⟨h3, h4⟩ := dec2 h2
      exact snd_old rfl rfl rfl rfl (fun _ => rfl) (sE_sub (plain_ix h1) (sndP a X W S o _ h3).a (sndP b X W S o _ h4).a)
    · cases h
  | .slc a lo hi => fun X W S o p h => by
    unfold chkE at h
    split at h
    · obtain ⟨h1, h2⟩ := dec2 h
      obtain ⟨h3, h4⟩ := dec2 h2
      exact snd_of rfl rfl rfl (fun _ => rfl) fun fr _ => sE_slc (sndP a X W S o _ h1).a (snd_o o (sndL lo) h3) (snd_o o (sndL hi) h4)
    · cases h
  | .rev a => fun X W S o p h => by
    unfold chkE at h
    split at h
    · exact snd_of rfl rfl rfl (fun _ => rfl) fun fr _ => sE_rev (sndP a X W S o _ h).a
    · cases h
  | .pop i es => fun X W S o p h => snd_pop o (sndL es) h
  | .me m a es => fun X W S o p h => by
    unfold chkE at h
    split at h
    · rename_i e pa x apos q cpos
      obtain ⟨h1, h2⟩ := dec2 h
      obtain ⟨h3, h4⟩ := dec2 h1
      obtain ⟨h5, h6⟩ := dec2 h2
      obtain ⟨h7, h8⟩ := dec2 h6
      obtain ⟨h9, h10⟩ := dec2 h8
      have h3 : x = ("index" : Str) := of_decide_eq_true h3
      subst h3
      exact snd_old rfl rfl rfl rfl (fun _ => rfl) (sE_index o h4 h7 (by cases pa <;> first | rfl | cases h5) (sndP a X W S o _ h9).a (sndP e X W S o _ h10).a)
    · rename_i e pa x apos q cpos
      obtain ⟨h1, h2⟩ := dec2 h
      obtain ⟨h3, h4⟩ := dec2 h1
      obtain ⟨h5, h6⟩ := dec2 h2
      obtain ⟨h7, h8⟩ := dec2 h6
      obtain ⟨h9, h10⟩ := dec2 h8
      have h3 : x = ("count" : Str) := of_decide_eq_true h3
      subst h3
      exact snd_old rfl rfl rfl rfl (fun _ => rfl) (sE_count o h4 h7 (by cases pa <;> first | rfl | cases h5) (sndP a X W S o _ h9).a (sndP e X W S o _ h10).a)
    · cases h
  | .xf i f => fun X W S o p h => by
    unfold chkE at h
    cases h
  | .comp elt tg kk es cs vs => fun X W S o p h => snd_comp o (sndL es) (sndL cs) (sndP elt) h
  | .comp2 elt tg kk es cs tg1 k1 es1 cs1 vs vs1 => fun X W S o p h => snd_comp2 o (sndL es) (sndL cs) (sndL es1) (sndL cs1) (sndP elt) h
  | .dcomp ek ev tg kk es cs vs => fun X W S o p h => by
    unfold chkE at h
    cases h
theorem sndL : ∀ es : List E, ∀ e, e ∈ es → SndP C defs k e
  | [], _, h => by cases h
  | e :: es, e', h => by
    rcases List.mem_cons.mp h with z | z
    · rw [z]
      exact sndP e
    · exact sndL es e' z
end
end
end JK

end
section
set_option Elab.async false
set_option linter.all false
set_option autoImplicit false
set_option maxRecDepth 100000
set_option maxHeartbeats 2000000
/-! JkStm: statements: the readings. -/
namespace JK
open PySem PySem.Spec L2
/-- statements have run: slots off asg are as they were -/
structure Ex2 (asg : List Nat) (α : Am) (σ : L2.St) (H : Hp) (α' : Am) (σ' : L2.St) (H' : Hp) : Prop where
  keep : ∀ a o, H a = some o → (∀ i, α i ≠ some a) → H' a = some o
  le : ∀ i a, α' i = some a → α i = some a ∨ H a = none
  there : ∀ a, (∃ o, H a = some o) → ∃ o, H' a = some o
  off : ∀ j, j ∉ asg → σ'[j]? = σ[j]?
theorem Ex2.refl {asg : List Nat} {α : Am} {σ : L2.St} {H : Hp} : Ex2 asg α σ H α σ H := ⟨fun _ _ h _ => h, fun _ _ h => .inl h, fun _ h => h, fun _ _ => rfl⟩
theorem Ex2.nn {asg : List Nat} {α α' : Am} {σ σ' : L2.St} {H H' : Hp} (x : Ex2 asg α σ H α' σ' H') {a : Addr} (h : H' a = none) : H a = none := by
  cases e : H a with
  | none => rfl
  | some o =>
    obtain ⟨o', q⟩ := x.there a ⟨o, e⟩
    rw [h] at q
    cases q
theorem Ex2.trans {asg b : List Nat} {α α1 α2 : Am} {σ σ1 σ2 : L2.St} {H H1 H2 : Hp} (x : Ex2 asg α σ H α1 σ1 H1) (y : Ex2 b α1 σ1 H1 α2 σ2 H2) (hb : ∀ j, j ∈ b → j ∈ asg) : Ex2 asg α σ H α2 σ2 H2 := by
  refine ⟨fun a o h n => y.keep a o (x.keep a o h n) fun i e => ?_, fun i a e => ?_, fun a h => y.there a (x.there a h), fun j hj => (y.off j fun z => hj (hb j z)).trans (x.off j hj)⟩
  · rcases x.le i a e with z | z
    · exact n i z
    · rw [h] at z; cases z
  · rcases y.le i a e with z | z
    · exact x.le i a z
    · exact .inr (x.nn z)
theorem Ex2.of1 {asg : List Nat} {α α' : Am} {σ : L2.St} {H H' : Hp} (x : Ex1 α H α' H') : Ex2 asg α σ H α' σ H' := ⟨x.keep, fun i a e => .inl (x.le i a e), x.there, fun _ _ => rfl⟩
theorem Ex2.mono {a b : List Nat} {α α' : Am} {σ σ' : L2.St} {H H' : Hp} (x : Ex2 a α σ H α' σ' H') (h : ∀ j, j ∈ a → j ∈ b) : Ex2 b α σ H α' σ' H' := ⟨x.keep, x.le, x.there, fun j hj => x.off j fun z => hj (h j z)⟩
/-- a result -/
def RtV (K : PySem.W.Frag) (P0 : Addr → Prop) (ff : Bool) (io : List Nat) (αs : Am) (Hs : Hp) (α' : Am) (H' : Hp) (u : V) (d : D) : Prop :=
  match ff with
  | true => ∃ a xs ds, u = .ref a ∧ d = .list ds ∧ (Hs a = none ∨ ∃ i, αs i = some a) ∧ H' a = some (.lst xs) ∧ RepL K H' (fun b => P0 b ∨ b = a) xs ds
  | false => Rep K H' (fun b => P0 b ∨ ∃ i, i ∈ io ∧ α' i = some b) u d
section
variable (W : WX) (K : PySem.W.Frag) (mg : Str → Option Value) (P0 : Addr → Prop) (ff : Bool) (io : List Nat)
def RunO (α : Am) (σ : L2.St) (H : Hp) (asg : List Nat) (o : Out) (D : Ends) : Prop :=
  match o with
  | .nx ρ' => ∀ α' σ' H', FI K P0 α' ρ' σ' H' → Ex2 asg α σ H α' σ' H' → D.nx σ' H'
  | .ct ρ' => ∀ α' σ' H', FI K P0 α' ρ' σ' H' → Ex2 asg α σ H α' σ' H' → D.ct σ' H'
  | .rt d ρ' => ∀ u α' σ' H', FI K P0 α' ρ' σ' H' → Ex2 asg α σ H α' σ' H' → RtV K P0 ff io α H α' H' u d → D.rt u H'
  | .ex c d ρ' => ∀ α' σ' H' cls dd, FI K P0 α' ρ' σ' H' → Ex2 asg α σ H α' σ' H' → ExR mg c d cls dd H' → W cls dd σ' H'
  | .er _ => False
end
section
variable {W : WX} {K : PySem.W.Frag} {mg : Str → Option Value} {P0 : Addr → Prop} {ff : Bool} {io : List Nat} {α α1 : Am} {σ σ1 : L2.St} {H H1 : Hp} {asg b : List Nat} {D : Ends}
theorem RunO.later {o : Out} (h : RunO W K mg P0 ff io α σ H asg o D) (x : Ex2 asg α σ H α1 σ1 H1) (hb : ∀ j, j ∈ b → j ∈ asg) : RunO W K mg P0 ff io α1 σ1 H1 b o D := by
  cases o with
  | nx ρ' => exact fun α' σ' H' f y => h α' σ' H' f (x.trans y hb)
  | ct ρ' => exact fun α' σ' H' f y => h α' σ' H' f (x.trans y hb)
  | rt d ρ' =>
    refine fun u α' σ' H' f y r => h u α' σ' H' f (x.trans y hb) ?_
    unfold RtV at r ⊢
    cases ff with
    | true =>
      obtain ⟨a, xs, ds, e1, e2, e3, e4⟩ := r
      refine ⟨a, xs, ds, e1, e2, ?_, e4⟩
      rcases e3 with e3 | ⟨i, e3⟩
      · exact .inl (x.nn e3)
      · rcases x.le i a e3 with z | z
        · exact .inr ⟨i, z⟩
        · exact .inl z
    | false => exact r
  | ex c d ρ' => exact fun α' σ' H' cls dd f y r => h α' σ' H' cls dd f (x.trans y hb) r
  | er m => exact h
theorem RunO.out {β : Type} {r : R β} {f : β → Ev → Out} (h : RunO W K mg P0 ff io α σ H asg (r.out f) D) : Run W K mg P0 σ α H r fun c ρ' α' H' => RunO W K mg P0 ff io α' σ H' asg (f c ρ') D := by
  cases r with
  | ok c ρ => exact fun α' H' _ x => RunO.later (o := f c ρ) h (Ex2.of1 x) fun _ z => z
  | ex c d ρ => exact fun α' H' cls dd fi x r => h α' σ H' cls dd fi (Ex2.of1 x) r
  | er m => exact h
theorem RunO.out0 {β : Type} {r : R β} {f : β → Ev → Out} (h : RunO W K mg P0 ff io α σ H asg (r.out f) D) : Run W K mg P0 σ α H r fun c ρ' α' H' => RunO W K mg P0 ff io α σ H asg (f c ρ') D := by
  cases r with
  | ok c ρ => exact fun α' H' _ x => h
  | ex c d ρ => exact fun α' H' cls dd fi x r => h α' σ H' cls dd fi (Ex2.of1 x) r
  | er m => exact h
theorem Run.weakP {P1 : Addr → Prop} {β : Type} {r : R β} {ok : β → Ev → Am → Hp → Prop} (h : Run W K mg P0 σ α H r ok) (s : ∀ a, P0 a → P1 a) : Run W K mg P1 σ α H r ok := by
  cases r with
  | ok c ρ => exact fun α' H' fi x => h α' H' (fi.weakP s) x
  | ex c d ρ => exact fun α' H' cls dd fi x r => h α' H' cls dd (fi.weakP s) x r
  | er m => exact h
theorem RunO.lift {β : Type} {x : Except String β} {ρ : Ev} {f : β → Ev → Out} (h : RunO W K mg P0 ff io α σ H asg ((lift x ρ).out f) D) : ∃ c, x = .ok c ∧ RunO W K mg P0 ff io α σ H asg (f c ρ) D := by
  cases x with
  | ok c => exact ⟨c, rfl, h⟩
  | error m => exact (show False from h).elim
/-- a part in front -/
theorem RunO.seq {o : Out} {f : Ev → Out} {a : List Nat} (h : RunO W K mg P0 ff io α σ H asg (match o with | .nx ρ1 => f ρ1 | o => o) D) (ha : ∀ j, j ∈ a → j ∈ asg) (hb : ∀ j, j ∈ b → j ∈ asg) {N : L2.St → Hp → Prop}
    (w : ∀ ρ1 α1 σ1 H1, FI K P0 α1 ρ1 σ1 H1 → RunO W K mg P0 ff io α1 σ1 H1 b (f ρ1) D → N σ1 H1) : RunO W K mg P0 ff io α σ H a o { D with nx := N } := by
  cases o with
  | nx ρ' => exact fun α' σ' H' fi y => w ρ' α' σ' H' fi (RunO.later (o := f ρ') h (y.mono ha) hb)
  | ct ρ' => exact fun α' σ' H' fi y => h α' σ' H' fi (y.mono ha)
  | rt d ρ' => exact fun u α' σ' H' fi y => h u α' σ' H' fi (y.mono ha)
  | ex c d ρ' => exact fun α' σ' H' cls dd fi y => h α' σ' H' cls dd fi (y.mono ha)
  | er m => exact h
end
section
variable (X : Cx) (C : Cfg) (W : WX) (n : Nat) (io : List Nat) (ff : Bool)
def tS (s : S) : TS := fun D σ H => ∃ P0 α ρ, FI X.K P0 α ρ σ H ∧ RunO W X.K X.mg P0 ff io α σ H (asgS s) (evS C n io ff s ρ) D
def tSs (s : List S) : TS := fun D σ H => ∃ P0 α ρ, FI X.K P0 α ρ σ H ∧ RunO W X.K X.mg P0 ff io α σ H (asgSs s) (evSs C n io ff s ρ) D
end
def DK (K : PySem.W.Frag) (D : Ends) : Ends := ⟨fun σ H => KF K H → D.nx σ H, fun u H => KF K H → D.rt u H, fun σ H => KF K H → D.bk σ H, fun σ H => KF K H → D.ct σ H⟩
section
variable {X : Cx} {C : Cfg} {defs : String → Option Df} {W : WX} {T : Sc} {k n : Nat} {io : List Nat} {ff : Bool}
theorem ps_by {p : Stmt} {t t' : TS} (h : PS X p t) (w : ∀ D σ H, KF X.K H → t' D σ H → t (DK X.K D) σ H) : PS X p t' := ⟨fun pins s σ H D I hq => thn (h.run pins s σ H _ I (w D σ H (kf_of I) hq)) fun f s1 z => by
  cases f with
  | next => obtain ⟨σ', H', I', q⟩ := z; exact ⟨σ', H', I', q (kf_of I')⟩
  | brk => obtain ⟨σ', H', I', q⟩ := z; exact ⟨σ', H', I', q (kf_of I')⟩
  | cont => obtain ⟨σ', H', I', q⟩ := z; exact ⟨σ', H', I', q (kf_of I')⟩
  | ret u => obtain ⟨v, σ', H', I', r, q⟩ := z; exact ⟨v, σ', H', I', r, q (kf_of I')⟩⟩
theorem pss_weak {p : List Stmt} {t t' : TS} (h : PSs X p t) (w : ∀ D σ H, t' D σ H → t D σ H) : PSs X p t' := ⟨fun pins s σ H D I hq => h.run pins s σ H D I (w D σ H hq)⟩
theorem sSs_nil : PSs X [] (tSs X C W n io ff []) := by
  refine pss_weak pss_nil ?_
  rintro D σ H ⟨P0, α, ρ, f, r⟩
  rw [evSs] at r
  exact r α σ H f .refl
theorem sSs_cons {s : S} {ss : List S} {p : Stmt} {ps : List Stmt} (h1 : PS X p (tS X C W n io ff s)) (h2 : PSs X ps (tSs X C W n io ff ss)) : PSs X (p :: ps) (tSs X C W n io ff (s :: ss)) := by
  refine pss_weak (pss_cons h1 h2) ?_
  rintro D σ H ⟨P0, α, ρ, f, r⟩
  have e : evSs C n io ff (s :: ss) ρ = match evS C n io ff s ρ with | .nx ρ1 => evSs C n io ff ss ρ1 | o => o := by
    first | (rw [evSs]; done) | (rw [evSs]; cases evS C n io ff s ρ <;> rfl)
  rw [e, asgSs] at r
  exact ⟨P0, α, ρ, f, r.seq (b := asgSs ss) (fun j hj => List.mem_append_left _ hj) (fun j hj => List.mem_append_right _ hj) fun ρ1 α1 σ1 H1 f1 r1 => ⟨P0, α1, ρ1, f1, r1⟩⟩
theorem sS_pas {pos : Pos} : PS X (.Pass pos) (tS X C W n io ff .pas) := by
  refine ps_by ps_pass ?_
  rintro D σ H kf ⟨P0, α, ρ, f, r⟩
  rw [evS] at r
  exact fun _ => r α σ H f .refl
theorem sS_cnt {pos : Pos} : PS X (.Continue pos) (tS X C W n io ff .cnt) := by
  refine ps_by ps_continue ?_
  rintro D σ H kf ⟨P0, α, ρ, f, r⟩
  rw [evS] at r
  exact fun _ => r α σ H f .refl
theorem sS_expr {e : E} {p : Expr} {pos : Pos} (hs : swapsWith p none pos.line X.env = pure false) (h : PE X p (tE X C W false e)) : PS X (.Expr p pos) (tS X C W n io ff (.expr e)) := by
  refine ps_by (ps_expr h hs) ?_
  rintro D σ H kf ⟨P0, α, ρ, f, r⟩
  rw [evS] at r
  exact ⟨P0, α, ρ, f, r.out.mono fun d ρ1 α1 H1 f1 e1 r1 u _ _ => r1 α1 σ H1 f1 .refl⟩
theorem pss_kf {p : List Stmt} {t : TS} (h : PSs X p t) : PSs X p fun D σ H => t (DK X.K D) σ H := ⟨fun pins s σ H D I hq => thn (h.run pins s σ H _ I hq) fun f s1 z => by
  cases f with
  | next => obtain ⟨σ', H', I', q⟩ := z; exact ⟨σ', H', I', q (kf_of I')⟩
  | brk => obtain ⟨σ', H', I', q⟩ := z; exact ⟨σ', H', I', q (kf_of I')⟩
  | cont => obtain ⟨σ', H', I', q⟩ := z; exact ⟨σ', H', I', q (kf_of I')⟩
  | ret u => obtain ⟨v, σ', H', I', r, q⟩ := z; exact ⟨v, σ', H', I', r, q (kf_of I')⟩⟩
/-- a plain value goes into slot i -/
theorem store_sh {P0 : Addr → Prop} {i : Nat} {d : D} {u : V} {α : Am} {ρ : Ev} {σ : L2.St} {H : Hp} {asg : List Nat} {D : Ends} (hi : i ∈ asg) (f : FI X.K P0 α ρ σ H) (r : Rep X.K H (PU P0 α) u d) (run : RunO W X.K X.mg P0 ff io α σ H asg (.nx (ρ.set i (.sh d))) D) : D.nx (σ.set i (some u)) H :=
  run _ _ _ (f.setSh' r) ⟨fun _ _ h _ => h, fun j a e => .inl (delA_le e).1, fun _ h => h, fun j hj => List.getElem?_set_ne (fun z => hj (by rw [← z]; exact hi))⟩
/-- a new list goes into slot i -/
theorem store_ow {P0 : Addr → Prop} {i : Nat} {d : D} {u : V} {α αs : Am} {ρ : Ev} {σ : L2.St} {H Hs : Hp} {asg : List Nat} {D : Ends} (hi : i ∈ asg) (x : Ex1 αs Hs α H) (hl : isLst d = true) (f : FI X.K P0 α ρ σ H) (r : OkV X.K P0 true Hs α ρ σ H u d)
    (run : RunO W X.K X.mg P0 ff io αs σ Hs asg (.nx (ρ.set i (.ow d))) D) : D.nx (σ.set i (some u)) H := by
  unfold OkV at r
  rw [hl] at r
  obtain ⟨a, xs, ds, rfl, rfl, h1, h2, h3, h4, h5⟩ := r
  by_cases hlt : i < σ.length
  case neg =>
    rw [List.set_eq_of_length_le (by omega)]
    rw [List.set_eq_of_length_le (by rw [f.len]; omega)] at run
    exact run _ _ _ f (Ex2.of1 x)
  refine run _ _ _ (h4.setOw h3 hlt ⟨xs, ds, rfl, h1, h5⟩) ⟨x.keep, fun j b e => ?_, x.there, fun j hj => List.getElem?_set_ne (fun z => hj (by rw [← z]; exact hi))⟩
  unfold putA at e
  split at e
  · cases e
    exact .inr h2
  · exact .inl (x.le j b e)
end
end JK

end
section
set_option Elab.async false
set_option linter.all false
set_option autoImplicit false
set_option maxRecDepth 100000
set_option maxHeartbeats 2000000
/-! JkStm2: statements, one by one. -/
namespace JK
open PySem PySem.Spec L2
section
variable {X : Cx} {C : Cfg} {defs : String → Option Df} {W : WX} {T : Sc} {k n : Nat} {io : List Nat} {ff : Bool}
/-- name = e: the value goes into slot i -/
def tSt (X : Cx) (C : Cfg) (W : WX) (fr : Bool) (e : E) (i : Nat) : TS := fun D σ H => tE X C W fr e σ H fun u H' => D.nx (σ.set i (some u)) H'
theorem sS_asg {i : Nat} {e : E} {p : Stmt} (h : PS X p (tSt X C W false e i)) : PS X p (tS X C W n io ff (.asg i e)) := by
  refine ps_by h ?_
  rintro D σ H kf ⟨P0, α, ρ, f, r⟩
  rw [evS] at r
  exact ⟨P0, α, ρ, f, r.out.mono fun d ρ1 α1 H1 f1 e1 r1 u hu _ => store_sh (by simp [asgS]) f1 hu.rep r1⟩
theorem sS_own {i : Nat} {e : E} {p : Stmt} (h : freshE C.ff e = true → PS X p (tSt X C W true e i)) : PS X p (tS X C W n io ff (.own i e)) := by
  by_cases hf : freshE C.ff e = true
  · refine ps_by (h hf) ?_
    rintro D σ H kf ⟨P0, α, ρ, f, r⟩
    rw [evS, if_pos hf] at r
    refine ⟨P0, α, ρ, f, r.out0.mono fun d ρ1 α1 H1 f1 e1 r1 u hu _ => ?_⟩
    cases hl : isLst d with
    | false => rw [hl] at r1; exact (show False from r1).elim
    | true =>
      rw [hl] at r1
      exact store_ow (by simp [asgS]) e1 hl f1 hu r1
  · refine ⟨fun pins s σ H D I hq => ?_⟩
    obtain ⟨P0, α, ρ, f, r⟩ := hq
    rw [evS, if_neg hf] at r
    exact (show False from r).elim
theorem sS_asgT {is : List Nat} {e : E} {q tg : Expr} {pos : Pos} (h : PE X q (tE X C W false e)) (hg : PG X tg (gT X.K (.tp is))) (hs : swapsWithSole [tg] q pos.line X.env = pure false) (hw : swappedStores [tg] q X.env = pure none) (h1 : (assignEach [tg] X.env).map (·.2) = [assign tg X.env]) :
    PS X (.Assign [tg] q pos) (tS X C W n io ff (.asgT is e)) := by
  refine ps_by (ps_asg h hg hs hw h1) ?_
  rintro D σ H kf ⟨P0, α, ρ, f, r⟩
  rw [evS] at r
  refine ⟨P0, α, ρ, f, r.out.mono fun d ρ1 α1 H1 f1 e1 r1 u hu => ?_⟩
  cases d <;> try exact (show False from r1).elim
  rename_i ds
  cases hb : setAll ρ1 is ds with
  | none => simp only [hb] at r1; exact (show False from r1).elim
  | some ρ2 =>
    simp only [hb] at r1
    exact ⟨P0, α1, ρ1, .tuple ds, ρ2, f1, hu.rep, hb, fun σ1 α2 f2 ha hj hl _ => r1 α2 σ1 H1 f2 ⟨fun _ _ h _ => h, fun i a e => by
      rw [ha i] at e
      split at e
      · cases e
      · exact .inl e, fun _ h => h, fun j hn => hj j hn⟩⟩
/-- a value waits for its slot -/
def Pnd (K : PySem.W.Frag) (fr : Bool) (P0 P1 : Addr → Prop) (Hs : Hp) (α : Am) (H : Hp) (u : V) (d : D) : Prop :=
  match fr with
  | true => ∃ a, u = .ref a ∧ Hs a = none ∧ ¬ P0 a ∧ (P1 = fun b => P0 b ∨ b = a) ∧ Hol K H (PU P1 α) a d
  | false => P1 = P0 ∧ Rep K H (PU P1 α) u d
theorem pnd_of {K : PySem.W.Frag} {fr : Bool} {P0 : Addr → Prop} {Hs : Hp} {α : Am} {ρ : Ev} {σ : L2.St} {H : Hp} {u : V} {d : D} (f : FI K P0 α ρ σ H) (h : OkV K P0 fr Hs α ρ σ H u d) (hl : fr = true → isLst d = true) : ∃ P1, (∀ a, P0 a → P1 a) ∧ FI K P1 α ρ σ H ∧ Pnd K fr P0 P1 Hs α H u d := by
  cases fr with
  | false => exact ⟨P0, fun _ z => z, f, rfl, h.rep⟩
  | true =>
    unfold OkV at h
    rw [hl rfl] at h
    obtain ⟨a, xs, ds, rfl, rfl, h1, h2, h3, h4, h5⟩ := h
    exact ⟨_, fun _ => .inl, h4, a, rfl, h2, h3, rfl, xs, ds, rfl, h1, h5⟩
/-- .. it is stored -/
theorem Pnd.put {K : PySem.W.Frag} {fr : Bool} {P0 P1 : Addr → Prop} {Hs : Hp} {α : Am} {ρ : Ev} {σ : L2.St} {H : Hp} {u : V} {d : D} {i : Nat} (h : Pnd K fr P0 P1 Hs α H u d) (f : FI K P1 α ρ σ H) :
    ∃ α1, FI K P0 α1 (ρ.set i (if fr then .ow d else .sh d)) (σ.set i (some u)) H ∧ (∀ j a, α1 j = some a → α j = some a ∨ Hs a = none) ∧ ∀ a, PU P0 α1 a → PU P1 α a := by
  cases fr with
  | false =>
    obtain ⟨rfl, h⟩ := h
    exact ⟨delA α i, f.setSh' h, fun j a e => .inl (delA_le e).1, fun a => pu_del⟩
  | true =>
    obtain ⟨a, rfl, h1, h2, rfl, h3⟩ := h
    by_cases hi : i < σ.length
    · refine ⟨putA α i a, f.setOw h2 hi h3, fun j b e => ?_, fun b q => ?_⟩
      · unfold putA at e
        split at e
        · cases e; exact .inr h1
        · exact .inl e
      · rcases q with q | ⟨j, q⟩
        · exact .inl (.inl q)
        · unfold putA at q
          split at q
          · cases q; exact .inl (.inr rfl)
          · exact .inr ⟨j, q⟩
    · rw [List.set_eq_of_length_le (by rw [f.len]; omega), List.set_eq_of_length_le (by omega)]
      exact ⟨α, f.weakP fun b => .inl, fun j b e => .inl e, fun b q => q.imp .inl id⟩
/-- .. another one has come -/
theorem Rep.ex1P {K : PySem.W.Frag} {P1 : Addr → Prop} {α1 α2 : Am} {H1 H2 : Hp} {v : V} {d : D} {p : Addr} (r : Rep K H1 (PU P1 α1) v d) (x : Ex1 α1 H1 α2 H2) (hp : H1 p = none) (hk : ∀ o, K.lookup p = some o → False) : Rep K H2 (PU (fun b => P1 b ∨ b = p) α2) v d := by
  refine Rep.imp (fun a o n q => x.keep a o q fun i z => n (.inr ⟨i, z⟩)) (fun a ys n h q => ?_) d v r
  rcases q with (q | q) | ⟨i, q⟩
  · exact n (.inl q)
  · subst q
    rcases h with (h | ⟨_, h⟩) | ((h | ⟨_, h⟩) | ⟨_, _, _, h, _⟩)
    · rw [hp] at h; cases h
    · rw [hp] at h; cases h
    · rw [hp] at h; cases h
    · rw [hp] at h; cases h
    · exact hk _ h
  · exact n (.inr ⟨i, x.le i a q⟩)
theorem RepL.ex1P {K : PySem.W.Frag} {P1 : Addr → Prop} {α1 α2 : Am} {H1 H2 : Hp} {v : List V} {d : List D} {p : Addr} (r : RepL K H1 (PU P1 α1) v d) (x : Ex1 α1 H1 α2 H2) (hp : H1 p = none) (hk : ∀ o, K.lookup p = some o → False) : RepL K H2 (PU (fun b => P1 b ∨ b = p) α2) v d := by
  refine RepL.imp (fun a o n q => x.keep a o q fun i z => n (.inr ⟨i, z⟩)) (fun a ys n h q => ?_) d v r
  rcases q with (q | q) | ⟨i, q⟩
  · exact n (.inl q)
  · subst q
    rcases h with (h | ⟨_, h⟩) | ((h | ⟨_, h⟩) | ⟨_, _, _, h, _⟩)
    · rw [hp] at h; cases h
    · rw [hp] at h; cases h
    · rw [hp] at h; cases h
    · rw [hp] at h; cases h
    · exact hk _ h
  · exact n (.inr ⟨i, x.le i a q⟩)
theorem Pnd.later {K : PySem.W.Frag} {fr fr2 : Bool} {P0 P1 P2 : Addr → Prop} {Hs : Hp} {α1 α2 : Am} {ρ1 : Ev} {σ : L2.St} {H1 H2 : Hp} {u w : V} {d d2 : D} (h : Pnd K fr P0 P1 Hs α1 H1 u d) (f1 : FI K P1 α1 ρ1 σ H1) (x : Ex1 α1 H1 α2 H2) (h2 : Pnd K fr2 P1 P2 H1 α2 H2 w d2) (kf : KF K H2) :
    ∀ α3, (∀ a, PU P1 α3 a → PU P2 α2 a) → Pnd K fr P0 P1 Hs α3 H2 u d := by
  intro α3 hs
  -- the values of the first one, shut out from the second one's list
  have key : ∀ xs ds, RepL K H1 (PU P1 α1) xs ds → RepL K H2 (PU P1 α3) xs ds := fun xs ds r => by
    cases fr2 with
    | false =>
      obtain ⟨rfl, _⟩ := h2
      exact (r.ex1 x).sub hs
    | true =>
      obtain ⟨p, rfl, q1, q2, rfl, ys, es, _, q3, _⟩ := h2
      exact (r.ex1P x q1 fun o e => by
        have := kf.free _ _ e
        rw [q3] at this
        cases this).sub hs
  cases fr with
  | false =>
    obtain ⟨e, r⟩ := h
    refine ⟨e, ?_⟩
    have := key [u] [d] (.cons r .nil)
    cases this with
    | cons r' _ => exact r'
  | true =>
    obtain ⟨a, rfl, h3, h4, rfl, xs, ds, rfl, h5, h6⟩ := h
    exact ⟨a, rfl, h3, h4, rfl, xs, ds, rfl, x.keep a _ h5 fun i => (f1.p0 a (.inr rfl)).2 i, key xs ds h6⟩
/-- two names, two values -/
theorem sS_par2 {i j : Nat} {oi oj : Bool} {a b : E} {x y : Str} {p q : Expr} {px py pt pt2 pos : Pos} {kt k2 : Nat} (hc : X.calm = true) (hN : X.N.Nodup) (hi : X.N[i]? = some x) (hj : X.N[j]? = some y) (hij : i ≠ j)
    (hx : X.env.scope.names.lookup x = some .local) (hy : X.env.scope.names.lookup y = some .local) (hp : ∀ fr, (fr = true → freshE C.ff a = true) → PE X p (tE X C W fr a)) (hq : ∀ fr, (fr = true → freshE C.ff b = true) → PE X q (tE X C W fr b)) (np : nonStar p = true) (nq : nonStar q = true)
    (hw : swappedStores [.Tuple [.Name x px, .Name y py] kt pt] (.Tuple [p, q] k2 pt2) X.env = pure (some [x, y])) :
    PS X (.Assign [.Tuple [.Name x px, .Name y py] kt pt] (.Tuple [p, q] k2 pt2) pos) (tS X C W n io ff (.par [(i, oi), (j, oj)] [a, b])) := by
  by_cases hf : (oi = true → freshE C.ff a = true) ∧ (oj = true → freshE C.ff b = true)
  · refine ps_by (ps_par hc hN hi hj hij hx hy (pa_cons (hp oi hf.1) (pa_cons (pe_kf (hq oj hf.2)) pa_nil (star_cons nq)) (by rw [star_cons np, star_cons nq])) hw) ?_
    rintro D σ H kf ⟨P0, α, ρ, f, r⟩
    rw [evS] at r
    split at r
    · rw [evEs_cons] at r
      have r0 := r.out0
      have ra := Run.bd r0
      refine ⟨P0, α, ρ, f, ra.mono fun d ρ1 α1 H1 f1 e1 r1 u hu => ?_⟩
      have r1 := r1
      rw [evEs_one, bd_bd] at r1
      have rb := Run.bd r1
      by_cases hl : oi = true → isLst d = true
      · obtain ⟨P1, s1, g1, g2⟩ := pnd_of f1 hu hl
        refine ⟨P1, α1, ρ1, g1, (Run.weakP rb s1).mono fun d2 ρ2 α2 H2 f2 e2 r2 w hw kf2 => ?_⟩
        have r3 := (r2.here (f2.weakP s1))
        by_cases hl2 : oj = true → isLst d2 = true
        · obtain ⟨P2, s2, g3, g4⟩ := pnd_of f2 hw hl2
          obtain ⟨α3, f3, l3, u3⟩ := g4.put (i := j) g3
          obtain ⟨α4, f4, l4, u4⟩ := (g2.later g1 e2 g4 kf2 α3 u3).put (i := i) f3
          have e0 : parS ρ2 [(i, oi), (j, oj)] [d, d2] = some ((ρ2.set i (if oi then .ow d else .sh d)).set j (if oj then .ow d2 else .sh d2)) := by
            have q1 : (oi && !isLst d) = false := by
              cases oi with
              | false => rfl
              | true => rw [hl rfl]; rfl
            have q2 : (oj && !isLst d2) = false := by
              cases oj with
              | false => rfl
              | true => rw [hl2 rfl]; rfl
            unfold parS
            rw [q1]
            simp only [Bool.false_eq_true, if_false]
            unfold parS
            rw [q2]
            simp only [Bool.false_eq_true, if_false]
            rfl
          simp only [e0] at r3
          rw [List.set_comm _ _ hij] at r3
          rw [show (List.set σ j (some w)).set i (some u) = (List.set σ i (some u)).set j (some w) from List.set_comm _ _ (Ne.symm hij)] at f4
          refine ⟨u, w, rfl, fun _ => r3 _ _ _ f4 ⟨(e1.trans e2).keep, fun i' a' e' => ?_, (e1.trans e2).there, fun j' hj' => ?_⟩⟩
          · rcases l4 i' a' e' with z | z
            · rcases l3 i' a' z with z | z
              · exact .inl ((e1.trans e2).le i' a' z)
              · exact .inr (e1.nn z)
            · exact .inr z
          · have hj' : j' ≠ i ∧ j' ≠ j := by simpa [asgS] using hj'
            rw [List.getElem?_set_ne (Ne.symm hj'.2), List.getElem?_set_ne (Ne.symm hj'.1)]
        · have e0 : parS ρ2 [(i, oi), (j, oj)] [d, d2] = none := by
            have q2 : (oj && !isLst d2) = true := by
              have := Classical.not_imp.mp hl2
              rw [this.1]
              simpa using this.2
            unfold parS
            split
            · rfl
            · unfold parS
              rw [q2]
              rfl
          simp only [e0] at r3
          exact (show False from r3).elim
      · -- a value that is no list: the evaluator ends there
        refine ⟨P0, α1, ρ1, f1, rb.mono fun d2 ρ2 α2 H2 f2 e2 r2 w hw kf2 => ?_⟩
        have r3 := r2.here f2
        have e0 : parS ρ2 [(i, oi), (j, oj)] [d, d2] = none := by
          have q2 : (oi && !isLst d) = true := by
            have := Classical.not_imp.mp hl
            rw [this.1]
            simpa using this.2
          unfold parS
          rw [q2]
          rfl
        simp only [e0] at r3
        exact (show False from r3).elim
    · exact (show False from r).elim
  · refine ⟨fun pins s σ H D I hz => ?_⟩
    obtain ⟨P0, α, ρ, f, r⟩ := hz
    rw [evS, if_neg (by
      intro h
      refine hf ?_
      simpa [Bool.or_eq_true, Decidable.imp_iff_not_or] using h)] at r
    exact (show False from r).elim
theorem sS_app {i : Nat} {e : E} {x m : Str} {p apos cpos pos : Pos} {q : Expr} (o : Okx X C defs W T k) (h : visB T i x = true) (hm : m = ("append" : Str)) (hline : (apos.endLine == cpos.line) = true) (hn : nonStar q = true) (he : PE X q (tE X C W false e)) :
    PS X (.Expr (.Call (.Attribute (.Name x p) m apos) [q] [] cpos) pos) (tS X C W n io ff (.app i e)) := by
  subst hm
  refine ps_by (ps_expr (pe_bm (r := rAppend) F.plainAttrs_list F.slot_list_append F.type_list_append mt_append (recv_bor o h) (pa_cons (pe_kf he) pa_nil (star_cons hn)) (by rfl) (by rw [star_cons hn]; rfl) hline (star_cons hn) rfl)) ?_
  rintro D σ H kf ⟨P0, α, ρ, f, r⟩
  rw [evS] at r
  cases ho : isOw ρ i with
  | false => rw [ho] at r; exact (show False from r).elim
  | true =>
    simp only [ho, Bool.not_true, Bool.false_eq_true, if_false] at r
    obtain ⟨a, d, e1, e2, e3, xs, ds, rfl, e5, e6⟩ := own_recv f ho
    refine ⟨.ref a, e3, .inl ⟨rfl, xs, .inl (.inl e5)⟩, P0, α, ρ, f, r.out.mono fun d1 ρ1 α1 H1 f1 _ r1 u hu kf1 => ?_⟩
    cases e7 : ρ1[i]? with
    | none => simp only [e7] at r1; exact (show False from r1).elim
    | some s =>
      cases s with
      | un => simp only [e7] at r1; exact (show False from r1).elim
      | sh _ => simp only [e7] at r1; exact (show False from r1).elim
      | xn _ _ => simp only [e7] at r1; exact (show False from r1).elim
      | ow dl =>
        obtain ⟨g1, ys, es, rfl, g3, g4⟩ := own_later e3 f1 e7
        simp only [e7] at r1
        split at r1
        · rename_i hlen
          have pa : PU P0 α1 a := .inr ⟨i, g1⟩
          have kk : ∀ b o, b ≠ a → H1 b = some o → upd H1 a (.lst (ys ++ [u])) b = some o := fun b o n q => by rw [upd_ne n]; exact q
          have ks : ∀ b o, ¬ PU P0 α1 b → H1 b = some o → upd H1 a (.lst (ys ++ [u])) b = some o := fun b o n q => kk b o (fun z => n (z ▸ pa)) q
          have hlt : ys.length < sizeLine := by
            rw [g4.length]
            exact Nat.lt_of_lt_of_le (of_decide_eq_true hlen) lim_line
          refine ⟨a, ys, u, rfl, rfl, g3, hlt, fun _ => ?_⟩
          refine r1 α1 σ _ (f1.turn g1 kk ⟨_, _, rfl, upd_same, RepL.imp ks (fun _ _ n _ => n) _ _ (g4.snoc hu.rep)⟩) (Ex2.of1 (.turn g1 kk ⟨_, upd_same⟩))
        · exact (show False from r1).elim
end
end JK

end
section
set_option Elab.async false
set_option linter.all false
set_option autoImplicit false
set_option maxRecDepth 100000
set_option maxHeartbeats 2000000
/-! JkStm3: stores at an index, results, branches, loops, exceptions. -/
namespace JK
open PySem PySem.Spec L2
section
variable {X : Cx} {C : Cfg} {defs : String → Option Df} {W : WX} {T : Sc} {k n : Nat} {io : List Nat} {ff : Bool}
theorem RunO.dk {K : PySem.W.Frag} {mg : Str → Option Value} {W : WX} {P0 : Addr → Prop} {ff : Bool} {io : List Nat} {α : Am} {σ : L2.St} {H : Hp} {asg : List Nat} {o : Out} {D : Ends} (h : RunO W K mg P0 ff io α σ H asg o D) : RunO W K mg P0 ff io α σ H asg o (DK K D) := by
  cases o with
  | nx ρ' => exact fun α' σ' H' f y _ => h α' σ' H' f y
  | ct ρ' => exact fun α' σ' H' f y _ => h α' σ' H' f y
  | rt d ρ' => exact fun u α' σ' H' f y r _ => h u α' σ' H' f y r
  | ex c d ρ' => exact h
  | er m => exact h
theorem RunO.undk {K : PySem.W.Frag} {mg : Str → Option Value} {W : WX} {P0 : Addr → Prop} {ff : Bool} {io : List Nat} {α : Am} {σ : L2.St} {H : Hp} {asg : List Nat} {o : Out} {D : Ends} (h : RunO W K mg P0 ff io α σ H asg o (DK K (DK K D))) : RunO W K mg P0 ff io α σ H asg o (DK K D) := by
  cases o with
  | nx ρ' => exact fun α' σ' H' f y kf => h α' σ' H' f y kf kf
  | ct ρ' => exact fun α' σ' H' f y kf => h α' σ' H' f y kf kf
  | rt d ρ' => exact fun u α' σ' H' f y r kf => h u α' σ' H' f y r kf kf
  | ex c d ρ' => exact h
  | er m => exact h
theorem RunO.dk2 {K : PySem.W.Frag} {mg : Str → Option Value} {W : WX} {P0 : Addr → Prop} {ff : Bool} {io : List Nat} {α : Am} {σ : L2.St} {H : Hp} {asg : List Nat} {o : Out} {D : Ends} (h : RunO W K mg P0 ff io α σ H asg o D) : RunO W K mg P0 ff io α σ H asg o (DK K (DK K D)) := h.dk.dk
theorem sS_seti {i : Nat} {a b : E} {x : Str} {p tpos pos : Pos} {pa pb : Expr} (o : Okx X C defs W T k) (h : visB T i x = true) (ha : PE X pa (tE X C W false a)) (hb : PE X pb (tE X C W false b)) (hs : swapsWithSole [.Subscript (.Name x p) pa tpos] pb pos.line X.env = pure false) (hw : swappedStores [.Subscript (.Name x p) pa tpos] pb X.env = pure none)
    (hx : ∀ v, assign (.Subscript (.Name x p) pa tpos) X.env v = (do
      let ov ← holding [v] (eval (.Name x p) X.env)
      let iv ← holding [v, ov] (eval pa X.env)
      standAt tpos
      holding [v, ov, iv] (setItem ov iv v)
      release [v, ov, iv] [])) :
    PS X (.Assign [.Subscript (.Name x p) pa tpos] pb pos) (tS X C W n io ff (.seti i a b)) := by
  refine ps_by (ps_asg hb (pg_sub (recv_bor o h) ha set_list hx) hs hw) ?_
  rintro D σ H kf ⟨P0, α, ρ, f, r⟩
  rw [evS] at r
  refine ⟨P0, α, ρ, f, r.out.mono fun d ρ1 α1 H1 f1 e1 r1 u hu => ?_⟩
  cases ho : isOw ρ1 i with
  | false => rw [ho] at r1; exact (show False from r1).elim
  | true =>
    simp only [ho, Bool.not_true, Bool.false_eq_true, if_false] at r1
    obtain ⟨a0, _, _, _, hv, _⟩ := own_recv f1 ho
    refine ⟨.ref a0, hv, P0, α1, ρ1, f1, r1.out.mono fun kd ρ2 α2 H2 f2 e2 r2 kv hk => ?_⟩
    have hk := OkV.rep hk
    cases e7 : ρ2[i]? with
    | none => simp only [e7] at r2; exact (show False from r2).elim
    | some s =>
      cases s with
      | un => simp only [e7] at r2; exact (show False from r2).elim
      | sh _ => simp only [e7] at r2; exact (show False from r2).elim
      | xn _ _ => simp only [e7] at r2; exact (show False from r2).elim
      | ow dl =>
        obtain ⟨a1, g1, g2, ys, es, rfl, g3, g4⟩ := f2.ow i dl e7
        rw [hv] at g2
        cases g2
        simp only [e7] at r2
        cases kd <;> try exact (show False from r2).elim
        cases hk
        rename_i j
        dsimp only at r2
        cases e8 : ixN es.length j with
        | none => rw [e8] at r2; exact (show False from r2).elim
        | some m =>
          rw [e8] at r2
          have pa' : PU P0 α2 a0 := .inr ⟨i, g1⟩
          have hu2 : Rep X.K H2 (PU P0 α2) u d := hu.rep.ex1 e2
          have kk : ∀ b o, b ≠ a0 → H2 b = some o → upd H2 a0 (.lst (ys.set m u)) b = some o := fun b o n q => by rw [upd_ne n]; exact q
          have ks : ∀ b o, ¬ PU P0 α2 b → H2 b = some o → upd H2 a0 (.lst (ys.set m u)) b = some o := fun b o n q => kk b o (fun z => n (z ▸ pa')) q
          refine ⟨a0, ys, j, m, rfl, rfl, g3, by rw [g4.length]; exact e8, fun _ => ?_⟩
          exact r2 α2 σ _ (f2.turn g1 kk ⟨_, _, rfl, upd_same, RepL.imp ks (fun _ _ n _ => n) _ _ (RepL.set hu2 m g4)⟩) (Ex2.of1 (.turn g1 kk ⟨_, upd_same⟩))
theorem sS_ret {e : E} {p : Expr} {pos : Pos} (hA : PE X p (tA X C W e)) (hE : freshE C.ff e = true → PE X p (tE X C W true e)) (hp : ff = true → plainA e = true ∨ freshE C.ff e = false) : PS X (.Return (some p) pos) (tS X C W n io ff (.ret e)) := by
  by_cases hf : ff = true ∧ freshE C.ff e = true
  · refine ps_by (ps_ret (hE hf.2)) ?_
    rintro D σ H kf ⟨P0, α, ρ, f, r⟩
    obtain ⟨rfl, hfe⟩ := hf
    have hpl : plainA e = true := by
      rcases hp rfl with z | z
      · exact z
      · rw [hfe] at z; cases z
    rw [evS, evA_plain hpl] at r
    have r0 := Run.bd r.out0
    refine ⟨P0, α, ρ, f, r0.mono fun d ρ1 α1 H1 f1 e1 r1 u hu _ => ?_⟩
    have r1 := r1.here f1
    dsimp only at r1
    split at r1
    · rename_i c
      have hl : isLst d = true := by
        rw [hfe] at c
        simpa using c
      unfold OkV at hu
      rw [hl] at hu
      obtain ⟨a, xs, ds, rfl, rfl, h1, h2, h3, h4, h5⟩ := hu
      exact r1 _ α1 σ H1 f1 (Ex2.of1 e1) ⟨a, xs, ds, rfl, rfl, .inl h2, h1, h5.sub fun b q => .inl q⟩
    · exact (show False from r1).elim
  · refine ps_by (ps_ret hA) ?_
    rintro D σ H kf ⟨P0, α, ρ, f, r⟩
    rw [evS] at r
    refine ⟨P0, α, ρ, f, r.out0.mono fun x ρ1 α1 H1 f1 e1 r1 u hu _ => ?_⟩
    cases x with
    | val d =>
      have hu : Rep X.K H1 (PU P0 α1) u d := hu
      dsimp only at r1
      split at r1
      · rename_i c
        have hff : ff = false := by
          cases ff with
          | false => rfl
          | true => exact absurd ⟨rfl, (by simpa using (dec2 (by simpa using c)).1)⟩ hf
        subst hff
        exact r1 u α1 σ H1 f1 (Ex2.of1 e1) (hu.sub fun b q => q.imp id fun ⟨i, _, z⟩ => ⟨i, z⟩)
      · exact (show False from r1).elim
    | bor i =>
      have hu : σ[i]? = some (some u) := hu
      dsimp only at r1
      split at r1
      · rename_i d e7
        split at r1
        · exact (show False from r1).elim
        · rename_i hio
          obtain ⟨a, g1, g2, xs, ds, rfl, g3, g4⟩ := f1.ow i d e7
          rw [hu] at g2
          cases g2
          refine r1 _ α1 σ H1 f1 (Ex2.of1 e1) ?_
          cases ff with
          | true => exact ⟨a, xs, ds, rfl, rfl, .inr ⟨i, e1.le i a g1⟩, g3, g4.sub fun b q => by
              rcases q with q | q
              · exact .inl q
              · exact .inr ⟨i, q ▸ g1⟩⟩
          | false =>
            obtain ⟨a', q1, q2, _⟩ := f1.demote e7
            rw [hu] at q1
            cases q1
            refine Rep.sub q2 fun b q => ?_
            rcases q with q | ⟨j, hj, q⟩
            · exact .inl q
            · refine .inr ⟨j, ?_⟩
              unfold delA
              rw [if_neg]
              · exact q
              · intro z
                subst z
                exact hio (by simpa using hj)
      · rename_i d e7
        split at r1
        · exact (show False from r1).elim
        · rename_i hff
          have hff : ff = false := by simpa using hff
          subst hff
          obtain ⟨v, g1, g2⟩ := f1.sh i d e7
          rw [hu] at g1
          cases g1
          exact r1 _ α1 σ H1 f1 (Ex2.of1 e1) (g2.sub fun b q => q.imp id fun ⟨i, _, z⟩ => ⟨i, z⟩)
      · exact (show False from r1).elim
theorem sS_ret0 {pos : Pos} : PS X (.Return none pos) (tS X C W n io ff .ret0) := by
  refine ps_by ps_retN ?_
  rintro D σ H kf ⟨P0, α, ρ, f, r⟩
  rw [evS] at r
  cases ff with
  | true => exact (show False from r).elim
  | false => exact fun _ => r _ α σ H f .refl .non
theorem sS_ifs {c : E} {a b : List S} {pc : Expr} {pa pb : List Stmt} {pos : Pos} (hc : PT X pc (tT X C W c)) (ha : PSs X pa (tSs X C W n io ff a)) (hb : PSs X pb (tSs X C W n io ff b)) : PS X (.If pc pa pb pos) (tS X C W n io ff (.ifs c a b)) := by
  refine ps_by (ps_if hc (pss_kf ha) (pss_kf hb)) ?_
  rintro D σ H kf ⟨P0, α, ρ, f, r⟩
  rw [evS, asgS] at r
  refine ⟨P0, α, ρ, f, r.out.mono fun t ρ1 α1 H1 f1 e1 r1 => ?_⟩
  cases t with
  | true =>
    show ite _ _ _
    rw [if_pos rfl]
    rw [if_pos rfl] at r1
    exact ⟨P0, α1, ρ1, f1, (RunO.later r1 .refl fun j hj => List.mem_append_left _ hj).dk2⟩
  | false =>
    show ite _ _ _
    rw [if_neg Bool.false_ne_true]
    rw [if_neg Bool.false_ne_true] at r1
    exact ⟨P0, α1, ρ1, f1, (RunO.later r1 .refl fun j hj => List.mem_append_right _ hj).dk2⟩
/-- a turn's end: on at nx, at ct -/
theorem RunO.turn {K : PySem.W.Frag} {mg : Str → Option Value} {W : WX} {P0 : Addr → Prop} {ff : Bool} {io : List Nat} {α : Am} {σ : L2.St} {H : Hp} {a b : List Nat} {D : Ends} {o o' : Out} {g : Ev → Out} {N : L2.St → Hp → Prop} {bk : L2.St → Hp → Prop} (h : RunO W K mg P0 ff io α σ H b o' D)
    (ho : o' = match o with | .nx ρ => g ρ | .ct ρ => g ρ | o => o) (ha : ∀ j, j ∈ a → j ∈ b)
    (w : ∀ ρ1 α1 σ1 H1, FI K P0 α1 ρ1 σ1 H1 → Ex2 a α σ H α1 σ1 H1 → RunO W K mg P0 ff io α1 σ1 H1 b (g ρ1) D → N σ1 H1) : RunO W K mg P0 ff io α σ H a o ⟨N, D.rt, bk, N⟩ := by
  subst ho
  cases o with
  | nx ρ' => exact fun α' σ' H' fi y => w ρ' α' σ' H' fi y (RunO.later (o := g ρ') h (y.mono ha) fun _ z => z)
  | ct ρ' => exact fun α' σ' H' fi y => w ρ' α' σ' H' fi y (RunO.later (o := g ρ') h (y.mono ha) fun _ z => z)
  | rt d ρ' => exact fun u α' σ' H' fi y => h u α' σ' H' fi (y.mono ha)
  | ex c d ρ' => exact fun α' σ' H' cls dd fi y => h α' σ' H' cls dd fi (y.mono ha)
  | er m => exact h
theorem whl_step {c : Ev → R Bool} {body : Ev → Out} {m : Nat} {ρ : Ev} : whlL c body (m + 1) ρ = (c ρ).out fun k ρ1 => if k then (match body ρ1 with
      | .nx ρ2 => whlL c body m ρ2
      | .ct ρ2 => whlL c body m ρ2
      | o => o) else .nx ρ1 := rfl
theorem sS_whl {c : E} {b : List S} {pc : Expr} {pb : List Stmt} {pos : Pos} (hp : PassesOwn (model X.prog X.w) X.A X.env X.xe) (hc : PT X pc (tT X C W c)) (hb : PSs X pb (tSs X C W n io ff b)) : PS X (.While pc pb [] pos) (tS X C W n io ff (.whl c b)) := by
  refine ps_by (ps_while hp hc hb) ?_
  rintro D σ H kf ⟨P0, α, ρ, f, r⟩
  rw [evS, asgS] at r
  refine ⟨fun m σ H => ∃ α ρ, FI X.K P0 α ρ σ H ∧ RunO W X.K X.mg P0 ff io α σ H (asgSs b) (whlL (evT C c) (evSs C n io ff b) m ρ) (DK X.K D), ⟨n, α, ρ, f, r.dk⟩, ?_⟩
  rintro m σ1 H1 ⟨α1, ρ1, f1, r1⟩
  cases m with
  | zero => exact (show False from r1).elim
  | succ m =>
    rw [whl_step] at r1
    refine ⟨P0, α1, ρ1, f1, r1.out.mono fun t ρ2 α2 H2 f2 e2 r2 => ?_⟩
    cases t with
    | true =>
      show ite _ _ _
      rw [if_pos rfl]
      refine ⟨fun σ' H' => ∃ α ρ, FI X.K P0 α ρ σ' H' ∧ RunO W X.K X.mg P0 ff io α σ' H' (asgSs b) (whlL (evT C c) (evSs C n io ff b) m ρ) (DK X.K D), fun σ' H' w => ⟨m, Nat.lt_succ_self m, w⟩, P0, α2, ρ2, f2, ?_⟩
      rw [if_pos rfl] at r2
      exact RunO.turn (g := whlL (evT C c) (evSs C n io ff b) m) r2 (by cases evSs C n io ff b ρ2 <;> rfl) (fun _ z => z) fun ρ3 α3 σ3 H3 f3 _ r3 => ⟨α3, ρ3, f3, r3⟩
    | false =>
      show ite _ _ _
      rw [if_neg Bool.false_ne_true]
      rw [if_neg Bool.false_ne_true] at r2
      exact r2 α2 σ1 H2 f2 .refl
theorem Rep.ex2 {K : PySem.W.Frag} {P0 : Addr → Prop} {asg : List Nat} {α α' : Am} {ρ' : Ev} {σ σ' : L2.St} {H H' : Hp} {v : V} {d : D} (r : Rep K H (PU P0 α) v d) (x : Ex2 asg α σ H α' σ' H') (f' : FI K P0 α' ρ' σ' H') (kf : KF K H') : Rep K H' (PU P0 α') v d := by
  refine Rep.imp (fun a o n q => x.keep a o q fun i z => n (.inr ⟨i, z⟩)) (fun a ys n h q => ?_) d v r
  rcases q with q | ⟨i, q⟩
  · exact n (.inl q)
  · rcases x.le i a q with z | z
    · exact n (.inr ⟨i, z⟩)
    · rcases h with (h | ⟨_, h⟩) | ((h | ⟨_, h⟩) | ⟨_, _, _, h, _⟩)
      · rw [z] at h; cases h
      · rw [z] at h; cases h
      · rw [z] at h; cases h
      · rw [z] at h; cases h
      · obtain ⟨d', e⟩ := f'.al i a q
        obtain ⟨a', e1, _, xs, ds, _, e2, _⟩ := f'.ow i d' e
        rw [q] at e1
        cases e1
        have := kf.free _ _ h
        rw [e2] at this
        cases this
theorem ArgRs.ex2 {K : PySem.W.Frag} {P0 : Addr → Prop} {asg : List Nat} {α α' : Am} {ρ' : Ev} {σ σ' : L2.St} {H H' : Hp} {as : List Arg} {us : List V} (r : ArgRs K P0 α σ H as us) (x : Ex2 asg α σ H α' σ' H') (f' : FI K P0 α' ρ' σ' H') (kf : KF K H') (hb : borIn asg as = false) : ArgRs K P0 α' σ' H' as us := by
  induction r with
  | nil => exact .nil
  | @cons y ys u us h _ ih =>
    obtain ⟨h1, h2⟩ := borIn_cons hb
    refine .cons ?_ (ih h1)
    cases y with
    | val d => exact Rep.ex2 h x f' kf
    | bor i =>
      show σ'[i]? = some (some u)
      rw [x.off i (h2 i rfl)]
      exact h
theorem forL_cons {tg : Tg} {body : Ev → Out} {still : Ev → Bool} {d : D} {r : List D} {ρ ρ1 : Ev} (h : bindT tg d ρ = some ρ1) : forL tg body still (d :: r) ρ = match body ρ1 with
      | .nx ρ2 => if still ρ2 then forL tg body still r ρ2 else .er "turned"
      | .ct ρ2 => if still ρ2 then forL tg body still r ρ2 else .er "turned"
      | o => o := by
  rw [forL]
  rw [h]
  all_goals first | (dsimp only; done) | (dsimp only; cases body ρ1 <;> rfl)
theorem sS_for {tg : Tg} {kk : Ik} {es : List E} {b : List S} {ptg pit : Expr} {pb : List Stmt} {pos : Pos} (hp : PassesOwn (model X.prog X.w) X.A X.env X.xe) (hc : X.calm = true) (hi : PI X ptg pit (tI X C W kk es)) (hg : PG X ptg (gT X.K tg)) (hb : PSs X pb (tSs X C W n io ff b))
    (hs : ∀ x, foldedSetIterable pit X.env x = pure x) : PS X (.For ptg pit pb [] pos) (tS X C W n io ff (.for_ tg kk es b)) := by
  refine ps_by (ps_for (g := gT X.K tg) hp hc hi hg (pss_kf hb) hs) ?_
  rintro D σ H kf ⟨P0, α, ρ, f, r⟩
  rw [evS, asgS] at r
  refine ⟨P0, α, ρ, f, r.out.mono fun as ρ1 α1 H1 f1 e1 r1 => ?_⟩
  cases hr : rsAll ρ1 as with
  | none => rw [hr] at r1; exact (show False from r1).elim
  | some ds =>
    rw [hr] at r1
    dsimp only at r1
    split at r1
    · exact (show False from r1).elim
    · rename_i hbor
      have hbor : borIn (tgS tg ++ asgSs b) as = false := by simpa using hbor
      obtain ⟨items, h2, r2⟩ := r1.lift
      refine ⟨ds, items, rfl, h2, fun us J hu hit => ?_⟩
      refine ⟨fun i m σ' H' => i + m = items.length ∧ ∃ α ρ, FI X.K P0 α ρ σ' H' ∧ ArgRs X.K P0 α σ' H' as us ∧ rsAll ρ as = some ds ∧
          RunO W X.K X.mg P0 ff io α σ' H' (tgS tg ++ asgSs b) (forL tg (evSs C n io ff b) (fun ρ' => sameD (rsAll ρ' as) (some ds)) (items.drop i) ρ) (DK X.K D), ⟨items.length, by omega, α1, ρ1, f1, hu, hr, r2.dk⟩, ?_⟩
      rintro i m σ2 H2 ⟨him, α2, ρ2, f2, ar2, hr2, r3⟩
      have hit2 := hit H2 _ (ar2.now f2 hr2) f2.pu
      cases hd : items[i]? with
      | none =>
        refine .inl ⟨hit2.2 i (by simpa using hd), ?_⟩
        rw [List.drop_eq_nil_of_le (by simpa using hd)] at r3
        exact r3 α2 σ2 H2 f2 .refl
      | some d =>
        have hlt : i < items.length := (List.getElem?_eq_some_iff.mp hd).1
        refine .inr ⟨(hit2.1 i d hd).1, fun σ' H' => i + 1 + (m - 1) = items.length ∧ ∃ α ρ, FI X.K P0 α ρ σ' H' ∧ ArgRs X.K P0 α σ' H' as us ∧ rsAll ρ as = some ds ∧
          RunO W X.K X.mg P0 ff io α σ' H' (tgS tg ++ asgSs b) (forL tg (evSs C n io ff b) (fun ρ' => sameD (rsAll ρ' as) (some ds)) (items.drop (i + 1)) ρ) (DK X.K D), fun σ' H' w => ⟨m - 1, by omega, w⟩, fun x H3 hy => ?_⟩
        obtain ⟨al3, hrx⟩ := (hit2.1 i d hd).2 x H3 hy
        rw [drop_at hd] at r3
        cases hbd : bindT tg d ρ2 with
        | none => rw [forL, hbd] at r3; exact (show False from r3).elim
        | some ρ3 =>
          rw [forL_cons hbd] at r3
          have f3 := f2.alloc al3
          refine ⟨P0, α2, ρ2, d, ρ3, f3, hrx, hbd, fun σ3 α3 f4 hα hσ hl => ?_⟩
          have x3 : Ex2 (tgS tg) α2 σ2 H2 α3 σ3 H3 := ⟨fun a o e _ => al3 a o e, fun j a e => by
            rw [hα j] at e
            split at e
            · cases e
            · exact .inl e, fun a ⟨o, e⟩ => ⟨o, al3 a o e⟩, hσ⟩
          have x3' : Ex2 (tgS tg ++ asgSs b) α2 σ2 H2 α3 σ3 H3 := x3.mono fun j hj => List.mem_append_left _ hj
          have r4 := RunO.later r3 x3' fun _ z => z
          refine ⟨P0, α3, ρ3, f4, ?_⟩
          refine RunO.turn (g := fun ρ2 => if sameD (rsAll ρ2 as) (some ds) then forL tg (evSs C n io ff b) (fun ρ' => sameD (rsAll ρ' as) (some ds)) (items.drop (i + 1)) ρ2 else .er "turned") r4.dk (by cases evSs C n io ff b ρ3 <;> rfl) (fun j hj => List.mem_append_right _ hj) fun ρ5 α5 σ5 H5 f5 x5 r5 kf5 => ?_
          have x25 : Ex2 (tgS tg ++ asgSs b) α2 σ2 H2 α5 σ5 H5 := x3'.trans x5 fun j hj => List.mem_append_right _ hj
          split at r5
          · rename_i hs5
            exact ⟨by omega, α5, ρ5, f5, ar2.ex2 x25 f5 kf5 hbor, sameD_eq hs5, r5.undk⟩
          · exact (show False from r5).elim
/-! ### exceptions -/
theorem sS_raise {c : String} {x m : Str} {j : Nat} {p p2 pc pos : Pos} (o : Okx X C defs W T k) (hx : glB T c x = true) (hc : T.xs c = true) (hM : c = "Malformed") : PS X (.Raise (some (.Call (.Name x p) [.Constant (.str m) j p2] [] pc)) none pos) (tS X C W n io ff (.raise c [])) := by
  obtain ⟨rfl, g, hd⟩ := gl_of o hx
  obtain ⟨hin, a, xc⟩ := o.xs c hc
  obtain ⟨bmB, B, newId, initId, F, q⟩ := xc.x
  refine ps_by (ps_raise o.calm o.tk (pmk_own F q xc.g xc.k (raises_own xc.s1 xc.s2) g hd)) ?_
  rintro D σ H kf ⟨P0, α, ρ, f, r⟩
  rw [evS, evEs_nil] at r
  have r : RunO W X.K X.mg P0 ff io α σ H (asgS (.raise c [])) (.ex c .none ρ) D := r
  exact r α σ H _ _ f .refl ⟨⟨hin, a, xc.g, rfl⟩, .inl ⟨rfl, rfl⟩, fun z => absurd hM z⟩
theorem evH_one {c c2 : String} {b : List S} {d : D} {ρ : Ev} : evH C n io ff [(c, none, b)] c2 d ρ = if c == c2 then evSs C n io ff b ρ else .ex c2 d ρ := by
  rw [evH, evH]
/-- try: .. except c: return a truth -/
theorem sS_tri {b : List S} {c : String} {v : Bool} {x : Str} {j : Nat} {np pos pos' p2 p3 : Pos} {pb : List Stmt} (o : Okx X C defs W T k) (hst : X.stack = X.env :: X.outer) (hfr : X.env.frame = some X.env.locals) (hx : glB T c x = true) (hc : T.xs c = true)
    (hb : ∀ (W : WX) (pn : List (Addr × Obj)) (xe : Value → Shared → Prop), Takes (X.tr pn xe) W → PassesOwn (model X.prog X.w) X.A X.env xe → PSs (X.tr pn xe) pb (tSs X C W n io ff b)) :
    PS X (.Try pb [.ExceptHandler (some (.Name x np)) none [.Return (some (.Constant (.bool v) j p2)) p3] pos'] [] [] pos) (tS X C W n io ff (.tri b [(c, none, [.ret (.bl v)])])) := by
  obtain ⟨rfl, g, hd⟩ := gl_of o hx
  obtain ⟨hin, a, xc⟩ := o.xs c hc
  refine ps_by (ps_try_only (c := .ref a) (ts := fun _ _ _ D σ H => D.rt (.bl v) H) hst hfr ⟨g, hd, .inl xc.g⟩ o.tk hb (fun a' oe cls d pn _ _ => ⟨fun pins s σ H D I hq => (pss_one (ps_ret pe_bl)).run pins s σ H D I hq⟩)) ?_
  rintro D σ H kf ⟨P0, α, ρ, f, r⟩
  rw [evS] at r
  have hasg : ∀ jj, jj ∈ asgSs b → jj ∈ asgS (.tri b [(c, none, [.ret (.bl v)])]) := fun jj hj => by
    rw [asgS]
    exact List.mem_append_left _ hj
  refine ⟨P0, α, ρ, f, ?_⟩
  cases ho : evSs C n io ff b ρ with
  | nx ρ' => rw [ho] at r; exact fun α' σ' H' fi y _ => r α' σ' H' fi (y.mono hasg)
  | ct ρ' => rw [ho] at r; exact fun α' σ' H' fi y _ => r α' σ' H' fi (y.mono hasg)
  | rt d ρ' => rw [ho] at r; exact fun u α' σ' H' fi y q _ => r u α' σ' H' fi (y.mono hasg) q
  | er m => rw [ho] at r; exact (show False from r).elim
  | ex c2 d ρ' =>
    rw [ho] at r
    intro α' σ' H' cls dd fi y hx2
    obtain ⟨⟨hin2, a2, g2, rfl⟩, hfld⟩ := hx2
    refine ⟨c == c2, o.tb.xc c2 hin2 c hin a2 a g2 xc.g, fun hb a' ha' => ?_, fun hb => ?_⟩
    · have r : RunO W X.K X.mg P0 ff io α σ H (asgS (.tri b [(c, none, [.ret (.bl v)])])) (evH C n io ff [(c, none, [.ret (.bl v)])] c2 d ρ') D := r
      rw [evH_one] at r
      rw [if_pos hb] at r
      have e : evSs C n io ff [.ret (.bl v)] ρ' = if !ff then .rt (.bool v) ρ' else .er "result not fresh" := by
        rw [evSs, evS, evA]
        · rw [evE]
          cases ff <;> rfl
        all_goals (intros; contradiction)
      rw [e] at r
      cases ff with
      | true => exact (show False from r).elim
      | false =>
        intro kf'
        exact r (.bl v) α' σ' H' fi (y.mono hasg) (.bl v)
    · have r : RunO W X.K X.mg P0 ff io α σ H (asgS (.tri b [(c, none, [.ret (.bl v)])])) (evH C n io ff [(c, none, [.ret (.bl v)])] c2 d ρ') D := r
      rw [evH_one] at r
      rw [if_neg (by rw [hb]; simp)] at r
      exact r α' σ' H' _ dd fi (y.mono hasg) ⟨⟨hin2, a2, g2, rfl⟩, hfld⟩
end
end JK

end
section
set_option Elab.async false
set_option linter.all false
set_option autoImplicit false
set_option maxRecDepth 100000
set_option maxHeartbeats 2000000
/-! JkAug: xs[i] += e; list.count. -/
namespace JK
open PySem PySem.Spec L2
section
variable {X : Cx} {C : Cfg} {defs : String → Option Df} {W : WX} {T : Sc} {k n : Nat} {io : List Nat} {ff : Bool}
/-- a list's item at a place from its front -/
def rGetP (K : PySem.W.Frag) : V → V → Hp → VK → Prop := fun o i H Q => ∃ (p : Addr) (xs : List V) (j : Nat) (v : V), o = .ref p ∧ i = .int (j : Int) ∧ SqL K H p xs ∧ xs[j]? = some v ∧ Q v H
theorem pget_list : PGet X (rGetP X.K) := by
  intro pins s σ H o i ov iv Q I ro ri h
  obtain ⟨p, xs, j, v, rfl, rfl, hq, he, q⟩ := h
  cases ro
  obtain ⟨t, rfl⟩ := ri
  obtain ⟨its, r, pl, hz⟩ := I.list hq
  obtain ⟨w, ew, rw'⟩ := r.get he
  have hj : j < xs.length := (List.getElem?_eq_some_iff.mp he).1
  have hn := line63
  refine wpAny_getItem_list pl.isList (by omega) (by omega) (by simpa using ew) ⟨v, H, I, rw', q⟩
theorem pip_by {op : Operator} {t t' : TIp} (h : PIp X op t) (w : ∀ x y H Q, t' x y H Q → t x y H Q) : PIp X op t' := fun pins s σ H x y v u Q I r1 r2 q => h pins s σ H x y v u Q I r1 r2 (w x y H Q q)
def augOp (op : Operator) (o : Op) : Bool := match op, o with
  | .Add, .add => true
  | .Sub, .sub => true
  | _, _ => false
/-- what an op= of ints does -/
def rAug (o : Op) : TIp := fun x y H Q => ∃ i j z, x = .int i ∧ y = .int j ∧ opD o (.int i) (.int j) = .ok (.int z) ∧ Q (.int z) H
theorem pip_aug {op : Operator} {o : Op} (h : augOp op o = true) : PIp X op (rAug o) := by
  cases op <;> cases o <;> first | cases h | skip
  · refine pip_by ip_add fun x y H Q => ?_
    rintro ⟨i, j, z, rfl, rfl, e, q⟩
    cases e
    exact ⟨i, j, rfl, rfl, q⟩
  · refine pip_by ip_sub fun x y H Q => ?_
    rintro ⟨i, j, z, rfl, rfl, e, q⟩
    cases e
    exact ⟨i, j, rfl, rfl, q⟩
theorem sS_augs {i : Nat} {a e : E} {x : Str} {p tpos pos : Pos} {pa pe : Expr} {op : Operator} {q : Op} (o : Okx X C defs W T k) (h : visB T i x = true) (hop : augOp op q = true) (ha : PE X pa (tE X C W false a)) (he : PE X pe (tE X C W false e))
    (hx : ∀ ov iv new, augStore pa ov iv new = (do holding [new, ov, iv] (setItem ov iv new); release [new, ov, iv] []; pure .next)) :
    PS X (.AugAssign (.Subscript (.Name x p) pa tpos) op pe pos) (tS X C W n io ff (.augs i a q e)) := by
  refine ps_by (ps_augS (recv_bor o h) ha pget_list he (pip_aug hop) set_list hx) ?_
  rintro D σ H kf ⟨P0, α, ρ, f, r⟩
  rw [evS] at r
  cases ho : isOw ρ i with
  | false => rw [ho] at r; exact (show False from r).elim
  | true =>
    simp only [ho, Bool.not_true, Bool.false_eq_true, if_false] at r
    obtain ⟨a0, _, _, _, hv, _⟩ := own_recv f ho
    refine ⟨.ref a0, hv, P0, α, ρ, f, r.out.mono fun kd ρ1 α1 H1 f1 e1 r1 kv hk => ?_⟩
    have hk := OkV.rep hk
    cases e7 : ρ1[i]? with
    | none => simp only [e7] at r1; exact (show False from r1).elim
    | some s =>
      cases s with
      | un => simp only [e7] at r1; exact (show False from r1).elim
      | sh _ => simp only [e7] at r1; exact (show False from r1).elim
      | xn _ _ => simp only [e7] at r1; exact (show False from r1).elim
      | ow dl =>
        obtain ⟨a1, g1, g2, ys, es, rfl, g3, g4⟩ := f1.ow i dl e7
        rw [hv] at g2
        cases g2
        simp only [e7] at r1
        cases kd <;> try exact (show False from r1).elim
        cases hk
        rename_i j
        dsimp only at r1
        by_cases hj : 0 ≤ j
        · rw [if_pos hj] at r1
          obtain ⟨m, rfl⟩ := Int.eq_ofNat_of_zero_le hj
          rw [Int.toNat_natCast] at r1
          cases e8 : es[m]? with
          | none => rw [e8] at r1; exact (show False from r1).elim
          | some dx =>
            rw [e8] at r1
            cases dx <;> try exact (show False from r1).elim
            rename_i x0
            dsimp only at r1
            obtain ⟨xv, e9, hx0⟩ := g4.get e8
            cases hx0
            refine ⟨a0, ys, m, .int x0, rfl, rfl, .inl (.inl g3), e9, P0, α1, ρ1, f1, r1.out.mono fun yd ρ2 α2 H2 f2 e2 r2 yv hy => ?_⟩
            have hy := OkV.rep hy
            cases e10 : ρ2[i]? with
            | none => simp only [e10] at r2; exact (show False from r2).elim
            | some s2 =>
              cases s2 with
              | un => simp only [e10] at r2; exact (show False from r2).elim
              | sh _ => simp only [e10] at r2; exact (show False from r2).elim
              | xn _ _ => simp only [e10] at r2; exact (show False from r2).elim
              | ow dl2 =>
                obtain ⟨a2, k1, k2, ys2, es2, rfl, k3, k4⟩ := f2.ow i dl2 e10
                rw [hv] at k2
                cases k2
                simp only [e10] at r2
                cases yd <;> try exact (show False from r2).elim
                cases hy
                rename_i y0
                dsimp only at r2
                by_cases hm : m < es2.length
                · rw [if_pos hm] at r2
                  obtain ⟨zd, e11, r3⟩ := r2.lift
                  obtain ⟨z0, rfl⟩ : ∃ z, zd = .int z := by
                    cases q <;> cases op <;> first | (cases hop; done) | (cases e11; exact ⟨_, rfl⟩)
                  have pa' : PU P0 α2 a0 := .inr ⟨i, k1⟩
                  have kk : ∀ b o, b ≠ a0 → H2 b = some o → upd H2 a0 (.lst (ys2.set m (.int z0))) b = some o := fun b o n q => by rw [upd_ne n]; exact q
                  have ks : ∀ b o, ¬ PU P0 α2 b → H2 b = some o → upd H2 a0 (.lst (ys2.set m (.int z0))) b = some o := fun b o n q => kk b o (fun z => n (z ▸ pa')) q
                  have hix : ixN ys2.length (m : Int) = some m := by
                    have := k4.length
                    unfold ixN
                    rw [if_pos (by omega), if_pos (by omega)]
                    simp
                  refine ⟨x0, y0, z0, rfl, rfl, e11, a0, ys2, (m : Int), m, rfl, rfl, k3, hix, fun _ => ?_⟩
                  exact r3 α2 σ _ (f2.turn k1 kk ⟨_, _, rfl, upd_same, RepL.imp ks (fun _ _ n _ => n) _ _ (RepL.set (.int z0) m k4)⟩) (Ex2.of1 (.turn k1 kk ⟨_, upd_same⟩))
                · rw [if_neg hm] at r2
                  exact (show False from r2).elim
        · rw [if_neg hj] at r1
          exact (show False from r1).elim
theorem sS_aug {i : Nat} {e : E} {x : Str} {p pos : Pos} {pe : Expr} {op : Operator} {q : Op} (o : Okx X C defs W T k) (h : stoB T i x = true) (hop : augOp op q = true) (he : PE X pe (tE X C W false e)) :
    PS X (.AugAssign (.Name x p) op pe pos) (tS X C W n io ff (.aug i q e)) := by
  obtain ⟨g1, g2, g3⟩ := sto_of o h
  refine ps_by (ps_aug o.nd g1 g2 he (pip_aug hop) g3) ?_
  rintro D σ H kf ⟨P0, α, ρ, f, r⟩
  rw [evS] at r
  cases e7 : ρ[i]? with
  | none => simp only [e7] at r; exact (show False from r).elim
  | some s =>
    cases s with
    | un => simp only [e7] at r; exact (show False from r).elim
    | ow _ => simp only [e7] at r; exact (show False from r).elim
    | xn _ _ => simp only [e7] at r; exact (show False from r).elim
    | sh dx =>
      simp only [e7] at r
      cases dx <;> try exact (show False from r).elim
      rename_i x0
      dsimp only at r
      obtain ⟨v, hv, hr⟩ := f.sh i _ e7
      cases hr
      refine ⟨.int x0, hv, P0, α, ρ, f, r.out.mono fun yd ρ1 α1 H1 f1 e1 r1 yv hy => ?_⟩
      have hy := OkV.rep hy
      cases yd <;> try exact (show False from r1).elim
      cases hy
      rename_i y0
      dsimp only at r1
      obtain ⟨zd, e11, r3⟩ := r1.lift
      obtain ⟨z0, rfl⟩ : ∃ z, zd = .int z := by
        cases q <;> cases op <;> first | (cases hop; done) | (cases e11; exact ⟨_, rfl⟩)
      exact ⟨x0, y0, z0, rfl, rfl, e11, fun _ => store_sh (by simp [asgS]) f1 (.int z0) r3⟩
end
end JK

end
section
set_option Elab.async false
set_option linter.all false
set_option autoImplicit false
set_option maxRecDepth 100000
set_option maxHeartbeats 2000000
/-! JkHnd: what an except clause gives back: constants, the reason, tuples of them. -/
namespace JK
open PySem PySem.Spec L2
/-- the reason's slot, the expression, its text -/
def chkA (T : Sc) (i0 : Option Nat) : E → Expr → Bool
  | .non, p => (match p with | .Constant .none _ _ => true | _ => false)
  | .bl b, p => (match p with | .Constant (.bool c) _ _ => b == c | _ => false)
  | .int i, p => (match p with | .Constant (.int j) _ _ => decide (i = j) | _ => false)
  | .str s, p => (match p with | .Constant (.str t) _ _ => decide (s = t) | _ => false)
  | .xf i f, p => (match p with | .Attribute (.Name x _) m _ => (decide (i0 = some i) && decide (m = sReason)) && (visB T i x && decide (f = "reason")) | _ => false)
  | _, _ => false
def chkAs (T : Sc) (i0 : Option Nat) : List E → List Expr → Bool
  | [], [] => true
  | e :: es, p :: ps => nonStar p && (chkA T i0 e p && chkAs T i0 es ps)
  | _, _ => false
def chkR (T : Sc) (i0 : Option Nat) : E → Expr → Bool
  | .tup es, p => (match p with | .Tuple ps _ _ => decide (es.length ≤ 1000) && chkAs T i0 es ps | _ => false)
  | e, p => chkA T i0 e p
/-- an atom's value -/
def atD (d0 : D) : E → Option D
  | .non => some .none
  | .bl b => some (.bool b)
  | .int i => some (.int i)
  | .str s => some (.str s)
  | .xf _ _ => some d0
  | _ => none
def vD : D → V
  | .bool b => .bl b
  | .int i => .int i
  | .str s => .str s
  | _ => .non
def flatA : D → Bool
  | .none => true | .bool _ => true | .int _ => true | .str _ => true
  | _ => false
theorem vD_rep {K : PySem.W.Frag} {H : Hp} {P : Addr → Prop} {d : D} (h : flatA d = true) : Rep K H P (vD d) d := by
  cases d <;> first | constructor | cases h
/-- the exception that is being handled stands at slot i0, its reason is d0 -/
def XnAt (X : Cx) (i0 : Option Nat) (a : Addr) (cls : Value) (dd : Option Addr) (d0 : D) (σ : L2.St) (H : Hp) : Prop :=
  ∀ i, i0 = some i → σ[i]? = some (some (.ref a)) ∧ ∃ s, d0 = .str s ∧ (∃ b fs, dd = some b ∧ H b = some (.xd fs) ∧ fs.lookup sReason = some (.str s)) ∧ ∃ c, cls = .ref c ∧ XfC X.K c ∧ PySem.W.findIn X.K (.ref c) sReason = some none
section
variable {X : Cx} {C : Cfg} {defs : String → Option Df} {W : WX} {T : Sc} {k n : Nat}
def tAt (X : Cx) (i0 : Option Nat) (a : Addr) (cls : Value) (dd : Option Addr) (e : E) : TE := fun σ H Q => ∃ d0 d, XnAt X i0 a cls dd d0 σ H ∧ atD d0 e = some d ∧ Q (vD d) H
def tAts (X : Cx) (i0 : Option Nat) (a : Addr) (cls : Value) (dd : Option Addr) (es : List E) : TA := fun σ H Q => ∃ d0 ds, XnAt X i0 a cls dd d0 σ H ∧ es.mapM (atD d0) = some ds ∧ Q (ds.map vD) H
theorem xfC_of {a : Addr} {c : Addr} {i0 : Option Nat} : True := trivial
theorem at_pe {i0 : Option Nat} {a : Addr} {oe : Obj} {cls : Value} {dd : Option Addr} {pn : List (Addr × Obj)} {e : E} {p : Expr} (o : Okx X C defs W T k) (hz : Zc cls dd oe) (hf : ∃ vs, oe.data = .fields vs) (h : chkA T i0 e p = true) :
    PE (X.suite a ((a, oe) :: pn)) p (tAt X i0 a cls dd e) := by
  cases e with
  | non =>
    simp only [chkA] at h
    split at h
    · exact pe_weak pe_non fun σ H Q ⟨d0, d, _, e, q⟩ => by cases e; exact q
    · cases h
  | bl b =>
    simp only [chkA] at h
    split at h
    · have := eq_of_beq h
      subst this
      exact pe_weak pe_bl fun σ H Q ⟨d0, d, _, e, q⟩ => by cases e; exact q
    · cases h
  | int i =>
    simp only [chkA] at h
    split at h
    · have := of_decide_eq_true h
      subst this
      exact pe_weak pe_int fun σ H Q ⟨d0, d, _, e, q⟩ => by cases e; exact q
    · cases h
  | str s =>
    simp only [chkA] at h
    split at h
    · have := of_decide_eq_true h
      subst this
      exact pe_weak pe_str fun σ H Q ⟨d0, d, _, e, q⟩ => by cases e; exact q
    · cases h
  | xf i f =>
    simp only [chkA] at h
    split at h
    · rename_i x px m pm
      obtain ⟨h1, h2⟩ := dec2 h
      obtain ⟨h3, h4⟩ := dec2 h1
      obtain ⟨h5, _⟩ := dec2 h2
      have hi := of_decide_eq_true h3
      have := of_decide_eq_true h4
      subst this
      obtain ⟨v1, v2, v3, v4⟩ := vis_of o h5
      refine ⟨fun pins s σ H Q I hq => ?_⟩
      obtain ⟨d0, d, hx, e, q⟩ := hq
      cases e
      obtain ⟨hs, s0, rfl, ⟨b, fs, rfl, hb, hl⟩, c, rfl, xc, hno⟩ := hx i hi
      have hpv : PE (X.suite a ((a, oe) :: pn)) (.Name x px) (tVar i) := pe_var (X := X.suite a ((a, oe) :: pn)) v1 v2 v3 v4
      exact (pe_xf (X := X) (pn := pn) xc hno hz hf hpv).run pins s σ H Q I ⟨_, hs, rfl, rfl, b, fs, _, rfl, hb, hl, q⟩
    · cases h
  | _ => exact absurd h (by simp [chkA])
theorem ats_pa {i0 : Option Nat} {a : Addr} {oe : Obj} {cls : Value} {dd : Option Addr} {pn : List (Addr × Obj)} (o : Okx X C defs W T k) (hz : Zc cls dd oe) (hf : ∃ vs, oe.data = .fields vs) : ∀ {es : List E} {ps : List Expr}, chkAs T i0 es ps = true →
    PA (X.suite a ((a, oe) :: pn)) ps (tAts X i0 a cls dd es)
  | [], [], _ => ⟨fun pos pins s σ H Q I ⟨d0, ds, _, e, q⟩ => by
      have e : some [] = some ds := e
      cases e
      exact pa_nil.run pos pins s σ H Q I q⟩
  | [], _ :: _, h => by unfold chkAs at h; cases h
  | _ :: _, [], h => by unfold chkAs at h; cases h
  | e :: es, p :: ps, h => by
    unfold chkAs at h
    obtain ⟨h1, h2⟩ := dec2 h
    obtain ⟨h3, h4⟩ := dec2 h2
    have q1 := at_pe (pn := pn) (a := a) o hz hf h3
    have q2 := ats_pa (pn := pn) (a := a) o hz hf h4
    refine ⟨fun pos pins s σ H Q I hq => ?_⟩
    obtain ⟨d0, ds, hx, em, q⟩ := hq
    rw [List.mapM_cons] at em
    cases ea : atD d0 e with
    | none => rw [ea] at em; cases em
    | some d =>
      rw [ea] at em
      cases er : es.mapM (atD d0) with
      | none => rw [er] at em; cases em
      | some ds' =>
        rw [er] at em
        cases em
        exact (pa_cons q1 q2 (star_cons h1)).run pos pins s σ H Q I ⟨d0, d, hx, ea, d0, ds', hx, er, q⟩
theorem repL_vD {K : PySem.W.Frag} {H : Hp} {P : Addr → Prop} : ∀ {ds : List D}, (∀ d ∈ ds, flatA d = true) → RepL K H P (ds.map vD) ds
  | [], _ => .nil
  | d :: ds, h => .cons (vD_rep (h d (by simp))) (repL_vD fun x hx => h x (by simp [hx]))
theorem atD_flat {d0 : D} (h0 : flatA d0 = true) {e : E} {d : D} (h : atD d0 e = some d) : flatA d = true := by
  cases e <;> first | (cases h; rfl) | (cases h; exact h0) | cases h
theorem atDs_flat {d0 : D} (h0 : flatA d0 = true) : ∀ {es : List E} {ds : List D}, es.mapM (atD d0) = some ds → (∀ d ∈ ds, flatA d = true) ∧ ds.length = es.length
  | [], ds, h => by
    have h : some [] = some ds := h
    cases h
    exact ⟨fun _ z => (by cases z), rfl⟩
  | e :: es, ds, h => by
    rw [List.mapM_cons] at h
    cases ea : atD d0 e with
    | none => rw [ea] at h; cases h
    | some d =>
      rw [ea] at h
      cases er : es.mapM (atD d0) with
      | none => rw [er] at h; cases h
      | some ds' =>
        rw [er] at h
        cases h
        obtain ⟨q1, q2⟩ := atDs_flat h0 er
        refine ⟨fun x hx => ?_, by simp [q2]⟩
        rcases List.mem_cons.mp hx with rfl | hx
        · exact atD_flat h0 ea
        · exact q1 x hx
/-- what is given back -/
def reD (d0 : D) : E → Option D
  | .tup es => (es.mapM (atD d0)).map .tuple
  | e => atD d0 e
/-- return e, in an except suite -/
def tRe (X : Cx) (i0 : Option Nat) (e : E) : Hsu := fun a cls dd D σ H => ∃ d0 d, XnAt X i0 a cls dd d0 σ H ∧ flatA d0 = true ∧ reD d0 e = some d ∧
  ∀ u H', Al H H' → (∀ P : Addr → Prop, (∀ b, P b → ∃ o, H b = some o) → Rep X.K H' P u d) → D.rt u H'
theorem re_pss {i0 : Option Nat} {a : Addr} {oe : Obj} {cls : Value} {dd : Option Addr} {pn : List (Addr × Obj)} {e : E} {p : Expr} {pos : Pos} (o : Okx X C defs W T k) (hz : Zc cls dd oe) (hf : ∃ vs, oe.data = .fields vs) (h : chkR T i0 e p = true) :
    PSs (X.suite a ((a, oe) :: pn)) [.Return (some p) pos] (tRe X i0 e a cls dd) := by
  have atom : ∀ e, chkA T i0 e p = true → (∀ d0, reD d0 e = atD d0 e) → PSs (X.suite a ((a, oe) :: pn)) [.Return (some p) pos] (tRe X i0 e a cls dd) := fun e h he => by
    refine ⟨fun pins s σ H D I hq => (pss_one (ps_ret (at_pe (pn := pn) (a := a) o hz hf h))).run pins s σ H D I ?_⟩
    obtain ⟨d0, d, hx, h0, e1, q⟩ := hq
    rw [he] at e1
    exact ⟨d0, d, hx, e1, q _ H (fun _ _ z => z) fun P _ => vD_rep (atD_flat h0 e1)⟩
  cases e with
  | tup es =>
    simp only [chkR] at h
    split at h
    · obtain ⟨h1, h2⟩ := dec2 h
      have h1 := of_decide_eq_true h1
      refine ⟨fun pins s σ H D I hq => (pss_one (ps_ret (pe_tup (ats_pa (pn := pn) (a := a) o hz hf h2)))).run pins s σ H D I ?_⟩
      obtain ⟨d0, d, hx, h0, e1, q⟩ := hq
      have e1 : (es.mapM (atD d0)).map PyData.tuple = some d := e1
      obtain ⟨ds, e2, rfl⟩ := Option.map_eq_some_iff.mp e1
      obtain ⟨q1, q2⟩ := atDs_flat h0 e2
      refine ⟨d0, ds, hx, e2, by rw [List.length_map, q2, sizeLine_eq]; omega, fun p hp => ?_⟩
      exact q _ _ (Al.upd hp) fun P hP => .tup (.of upd_same) (fun z => by obtain ⟨o, z⟩ := hP _ z; rw [hp] at z; cases z) (repL_vD q1)
    · cases h
  | _ => exact atom _ (by simp only [chkR] at h; exact h) fun d0 => rfl
/-! ### raise c('m') of a class with a reason -/
variable {io : List Nat} {ff : Bool}
theorem del_upd {H1 : Hp} {a dx : Addr} {o1 o2 o3 o4 : HO} (hn : H1 a = none) (hne : dx ≠ a) : upd (del (upd (upd (upd H1 a o1) dx o2) a o3) a) dx o4 = upd H1 dx o4 := by
  funext b
  by_cases hb : b = dx
  · rw [hb, upd_same, upd_same]
  · rw [upd_ne hb, upd_ne hb]
    by_cases hb2 : b = a
    · rw [hb2, del_same, hn]
    · rw [del_ne hb2, upd_ne hb2, upd_ne hb, upd_ne hb2]
theorem sS_raiseR {c : String} {x m : Str} {j : Nat} {p p2 pc pos : Pos} (o : Okx X C defs W T k) (hx : glB T c x = true) (hc : T.rs c = true) : PS X (.Raise (some (.Call (.Name x p) [.Constant (.str m) j p2] [] pc)) none pos) (tS X C W n io ff (.raise c [.str m])) := by
  obtain ⟨rfl, g, hd⟩ := gl_of o hx
  obtain ⟨hin, a, xc⟩ := o.rs c hc
  obtain ⟨fI, fd, i1, i2, hb, F⟩ := xc.x
  have hr : Room (0 + 1 + 1) X.A := o.room.mono o.ge
  have hp : L2.PMk X (.Call (.Name (Str.ofString c) p) [.Constant (.str m) j p2] [] pc) (tMkO a (spRef a) [] (tCons (tC (.str m)) tNil)) :=
    pmk_oex xc.T i1 i2 (F X.w X.base (L2.CX X.prog X.w) 0) hr hb .nil (fun pins σ H s e s' I h => by
      obtain ⟨_, _, _, _, _, _, _, _, _, _, _, _, z⟩ := h
      exact z.elim) g xc.g (pa_cons pe_str pa_nil) hd
  refine ps_by (ps_raise o.calm o.tk hp) ?_
  rintro D σ H kf ⟨P0, α, ρ, f, r⟩
  rw [evS, evEs_cons, evE] at r
  have r : RunO W X.K X.mg P0 ff io α σ H (asgS (.raise c [.str m])) (((R.ok (PyData.str m) ρ).bd fun d ρ1 => (R.ok [] ρ1).bd fun ds ρ2 => .ok (d :: ds) ρ2).out fun ds ρ1 => match ds with
    | [] => .ex c .none ρ1
    | [d] => .ex c d ρ1
    | _ => .er "raise") D := by simp only [evEs_nil] at r; exact r
  have r : RunO W X.K X.mg P0 ff io α σ H (asgS (.raise c [.str m])) (.ex c (.str m) ρ) D := r
  refine ⟨by show 1 ≤ 1000; omega, fun e he => ⟨e, m, rfl, upd_same, fun dx hdx hne => ⟨rfl, dx, [(sReason, .str m)], upd_same, ?_, ?_, ?_⟩⟩⟩
  · rw [upd_ne hne, upd_same]
  · rw [upd_ne hne] at hdx
    exact hdx
  · rw [upd_ne hne] at hdx
    rw [del_upd he hne]
    exact r α σ _ _ _ (f.alloc (Al.upd hdx)) (Ex2.of1 (.al (Al.upd hdx))) ⟨⟨hin, a, xc.g, rfl⟩, .inr ⟨dx, _, m, rfl, rfl, upd_same, by simp [List.lookup]⟩, fun _ => ⟨m, rfl⟩⟩
/-! ### try, with any clauses of this kind -/
/-- the clauses' texts -/
def asB (T : Sc) (c : String) (i : Option Nat) (nm : Option Str) : Bool := match i, nm with
  | none, none => true
  | some i, some nm => ((decide (c ≠ "Malformed") && T.rs c) && (decide (T.N[i]? = some nm) && decide (T.sc.names.lookup nm = some .local)))
  | _, _ => false
def chkH1 (T : Sc) (ff : Bool) (c : String) (i : Option Nat) (b : List S) (p : ExceptHandler) : Bool := match b, p with
  | [.ret e], .ExceptHandler (some (.Name x _)) nm [.Return (some q) _] _ => ((glB T c x && (T.xs c || T.rs c)) && !ff) && (asB T c i nm && chkR T i e q)
  | _, _ => false
def chkH (T : Sc) (ff : Bool) : List (String × Option Nat × List S) → List ExceptHandler → Bool
  | [], [] => true
  | (c, i, b) :: hs, p :: ps => chkH1 T ff c i b p && chkH T ff hs ps
  | _, _ => false
theorem xs_g (o : Okx X C defs W T k) {c : String} (h : (T.xs c || T.rs c) = true) : c ∈ xsAll ∧ ∃ a, X.mg (Str.ofString c) = some (.ref a) := by
  rcases Bool.or_eq_true_iff.mp h with h | h
  · obtain ⟨h1, a, h2⟩ := o.xs c h
    exact ⟨h1, a, h2.g⟩
  · obtain ⟨h1, a, h2⟩ := o.rs c h
    exact ⟨h1, a, h2.g⟩
theorem reD_ev {C : Cfg} {d0 : D} {ρ : Ev} {i0 : Option Nat} {T : Sc} (hx : ∀ i, i0 = some i → ∃ s c, d0 = .str s ∧ ρ[i]? = some (.xn c (.str s))) : ∀ {e : E} {p : Expr}, chkA T i0 e p = true → ∃ d, atD d0 e = some d ∧ evE C e ρ = .ok d ρ
  | .non, p, _ => ⟨_, rfl, by rw [evE]⟩
  | .bl b, p, _ => ⟨_, rfl, by rw [evE]⟩
  | .int i, p, _ => ⟨_, rfl, by rw [evE]⟩
  | .str s, p, _ => ⟨_, rfl, by rw [evE]⟩
  | .xf i f, p, h => by
    simp only [chkA] at h
    split at h
    · obtain ⟨h1, h2⟩ := dec2 h
      obtain ⟨h3, h4⟩ := dec2 h1
      obtain ⟨s, c, rfl, e⟩ := hx i (of_decide_eq_true h3)
      exact ⟨_, rfl, by rw [evE, e]⟩
    · cases h
  | .var _, _, h => absurd h (by simp [chkA]) | .bor _, _, h => absurd h (by simp [chkA]) | .glo _, _, h => absurd h (by simp [chkA]) | .op .., _, h => absurd h (by simp [chkA])
  | .neg _, _, h => absurd h (by simp [chkA]) | .inv _, _, h => absurd h (by simp [chkA]) | .not _, _, h => absurd h (by simp [chkA]) | .and .., _, h => absurd h (by simp [chkA]) | .or .., _, h => absurd h (by simp [chkA])
  | .cmp .., _, h => absurd h (by simp [chkA]) | .chain .., _, h => absurd h (by simp [chkA]) | .ite .., _, h => absurd h (by simp [chkA]) | .call .., _, h => absurd h (by simp [chkA]) | .bi .., _, h => absurd h (by simp [chkA])
  | .isi .., _, h => absurd h (by simp [chkA]) | .tup _, _, h => absurd h (by simp [chkA]) | .lst _, _, h => absurd h (by simp [chkA]) | .dis .., _, h => absurd h (by simp [chkA]) | .sub .., _, h => absurd h (by simp [chkA])
  | .slc .., _, h => absurd h (by simp [chkA]) | .rev _, _, h => absurd h (by simp [chkA]) | .pop .., _, h => absurd h (by simp [chkA]) | .me .., _, h => absurd h (by simp [chkA]) | .comp .., _, h => absurd h (by simp [chkA])
  | .comp2 .., _, h => absurd h (by simp [chkA]) | .dcomp .., _, h => absurd h (by simp [chkA])
theorem reDs_ev {C : Cfg} {d0 : D} {ρ : Ev} {i0 : Option Nat} {T : Sc} (hx : ∀ i, i0 = some i → ∃ s c, d0 = .str s ∧ ρ[i]? = some (.xn c (.str s))) : ∀ {es : List E} {ps : List Expr}, chkAs T i0 es ps = true → ∃ ds, es.mapM (atD d0) = some ds ∧ evEs C es ρ = .ok ds ρ
  | [], [], _ => ⟨[], rfl, by rw [evEs]⟩
  | [], _ :: _, h => by unfold chkAs at h; cases h
  | _ :: _, [], h => by unfold chkAs at h; cases h
  | e :: es, p :: ps, h => by
    unfold chkAs at h
    obtain ⟨h1, h2⟩ := dec2 h
    obtain ⟨h3, h4⟩ := dec2 h2
    obtain ⟨d, q1, q2⟩ := reD_ev (C := C) hx h3
    obtain ⟨ds, q3, q4⟩ := reDs_ev (C := C) hx h4
    exact ⟨d :: ds, by rw [List.mapM_cons, q1, q3]; rfl, by rw [evEs_cons, q2]; show ((evEs C es ρ).bd fun ds ρ2 => R.ok (d :: ds) ρ2) = _; rw [q4]; rfl⟩
theorem re_ev {C : Cfg} {d0 : D} {ρ : Ev} {i0 : Option Nat} {T : Sc} (hx : ∀ i, i0 = some i → ∃ s c, d0 = .str s ∧ ρ[i]? = some (.xn c (.str s))) {e : E} {p : Expr} (h : chkR T i0 e p = true) : ∃ d, reD d0 e = some d ∧ evA C e ρ = .ok (.val d) ρ := by
  have atom : chkA T i0 e p = true → (reD d0 e = atD d0 e) → (evA C e ρ = (evE C e ρ).bd fun d ρ1 => .ok (.val d) ρ1) → ∃ d, reD d0 e = some d ∧ evA C e ρ = .ok (.val d) ρ := fun h h2 h3 => by
    obtain ⟨d, q1, q2⟩ := reD_ev (C := C) hx h
    exact ⟨d, by rw [h2, q1], by rw [h3, q2]; rfl⟩
  cases e with
  | tup es =>
    simp only [chkR] at h
    split at h
    · obtain ⟨h1, h2⟩ := dec2 h
      obtain ⟨ds, q1, q2⟩ := reDs_ev (C := C) hx h2
      refine ⟨.tuple ds, by show (es.mapM (atD d0)).map PyData.tuple = _; rw [q1]; rfl, ?_⟩
      rw [evA]
      · rw [evE, q2]; rfl
      all_goals (intros; contradiction)
    · cases h
  | bor i => exact absurd h (by simp [chkR, chkA])
  | ite a b c => exact absurd h (by simp [chkR, chkA])
  | _ => exact atom (by simp only [chkR] at h; exact h) rfl (by rw [evA] <;> (intros; contradiction))
def reOf : List S → E
  | [.ret e] => e
  | _ => .non
def hdL (X : Cx) (hs : List (String × Option Nat × List S)) : List (Value × Option Nat × Hsu) := hs.map fun h => ((X.mg (Str.ofString h.1)).getD .none, h.2.1, tRe X h.2.1 (reOf h.2.2))
theorem chkH_cons {c : String} {i : Option Nat} {b : List S} {hs : List (String × Option Nat × List S)} {ps : List ExceptHandler} (h : chkH T ff ((c, i, b) :: hs) ps = true) :
    ∃ x np nm q p1 p2 rs e, ps = .ExceptHandler (some (.Name x np)) nm [.Return (some q) p1] p2 :: rs ∧ b = [.ret e] ∧ glB T c x = true ∧ (T.xs c || T.rs c) = true ∧ ff = false ∧ chkR T i e q = true ∧ chkH T ff hs rs = true ∧
      ((i = none ∧ nm = none) ∨ ∃ i' n', i = some i' ∧ nm = some n' ∧ T.N[i']? = some n' ∧ T.sc.names.lookup n' = some .local ∧ T.rs c = true ∧ c ≠ "Malformed") := by
  cases ps with
  | nil => unfold chkH at h; cases h
  | cons p ps =>
    unfold chkH at h
    obtain ⟨h1, h2⟩ := dec2 h
    unfold chkH1 at h1
    split at h1
    · rename_i e x np nm q p1 p2
      obtain ⟨h3, h4⟩ := dec2 h1
      obtain ⟨h5, h6⟩ := dec2 h3
      obtain ⟨h7, h8⟩ := dec2 h5
      obtain ⟨h9, h10⟩ := dec2 h4
      refine ⟨_, _, _, _, _, _, _, _, rfl, rfl, h7, h8, by simpa using h6, h10, h2, ?_⟩
      unfold asB at h9
      split at h9
      · exact .inl ⟨rfl, rfl⟩
      · obtain ⟨k1, k2⟩ := dec2 h9
        obtain ⟨k3, k4⟩ := dec2 k1
        obtain ⟨k5, k6⟩ := dec2 k2
        exact .inr ⟨_, _, rfl, rfl, of_decide_eq_true k5, of_decide_eq_true k6, k4, of_decide_eq_true k3⟩
      · cases h9
    · cases h1
theorem hdG_of (o : Okx X C defs W T k) : ∀ {hs : List (String × Option Nat × List S)} {ps : List ExceptHandler}, chkH T ff hs ps = true → HdG X ps (hdL X hs)
  | [], ps, h => by
    cases ps with
    | nil => exact .nil
    | cons _ _ => unfold chkH at h; cases h
  | (c, i, b) :: hs, ps, h => by
    obtain ⟨x, np, nm, q, p1, p2, rs, e, rfl, rfl, g1, g2, g3, g4, g5, g6⟩ := chkH_cons h
    obtain ⟨hx, gl, dbg⟩ := gl_of o g1
    obtain ⟨hin, a, hm⟩ := xs_g o g2
    have ih := hdG_of o g5
    have hn : Names X x (.ref a) := ⟨gl, dbg, .inl (by rw [hx]; exact hm)⟩
    have e1 : hdL X ((c, i, [.ret e]) :: hs) = (.ref a, i, tRe X i e) :: hdL X hs := by
      show ((X.mg (Str.ofString c)).getD .none, i, tRe X i e) :: hdL X hs = _
      rw [hm]
      rfl
    rw [e1]
    rcases g6 with ⟨rfl, rfl⟩ | ⟨i', n', rfl, rfl, h1, h2, h3, _⟩
    · exact .plain hn (fun a oe cls d pn hz hf => re_pss o hz hf g4) ih
    · exact .as_ (by rw [o.N]; exact h1) (by show X.env.scope.names.lookup n' = _; rw [o.sc]; exact h2) hn (fun a oe cls d pn hz hf => re_pss o hz hf g4) ih
theorem evH_cons2 {c c2 : String} {i : Option Nat} {b : List S} {hs : List (String × Option Nat × List S)} {d : D} {ρ : Ev} : evH C n io ff ((c, i, b) :: hs) c2 d ρ = if c == c2 then (match i with
      | none => evSs C n io ff b ρ
      | some i => if decide (i < ρ.length) then (match evSs C n io ff b (ρ.set i (.xn c2 d)) with
        | .nx ρ1 => .nx (ρ1.set i .un)
        | .ct ρ1 => .ct (ρ1.set i .un)
        | o => o) else .er "no slot") else evH C n io ff hs c2 d ρ := by first | (rw [evH.eq_def]; done) | (rw [evH.eq_def]; rfl)
theorem tri_w (o : Okx X C defs W T k) {P0 : Addr → Prop} {D : Ends} {c2 : String} {d : PyData} {cls : Value} {dd : Option Addr} {a2 : Addr} {asg : List Nat} (hin2 : c2 ∈ xsAll) (g2 : X.mg (Str.ofString c2) = some (.ref a2)) (hcls : cls = .ref a2) {α : Am} {ρ : Ev} {σ : L2.St} {H : Hp} (f : FI X.K P0 α ρ σ H)
    (hfld : FldR d dd H ∧ (c2 ≠ "Malformed" → ∃ s, d = .str s)) : ∀ {hs : List (String × Option Nat × List S)} {ps : List ExceptHandler}, chkH T ff hs ps = true → (∀ j, j ∈ asgH hs → j ∈ asg) → RunO W X.K X.mg P0 ff io α σ H asg (evH C n io ff hs c2 d ρ) D → wG X.K W (DK X.K D) (hdL X hs) cls dd σ H
  | [], ps, h, _, r => by
    have e : evH C n io ff [] c2 d ρ = .ex c2 d ρ := by rw [evH.eq_def]
    rw [e] at r
    exact r α σ H cls dd f .refl ⟨⟨hin2, a2, g2, hcls⟩, hfld⟩
  | (c, i, b) :: hs, ps, h, hasg, r => by
    obtain ⟨x, np, nm, q, p1, p2, rs, e, rfl, rfl, g1, g3, g4, g5, g6, g7⟩ := chkH_cons h
    obtain ⟨hin, a, hm⟩ := xs_g o g3
    have e1 : hdL X ((c, i, [.ret e]) :: hs) = (.ref a, i, tRe X i e) :: hdL X hs := by
      show ((X.mg (Str.ofString c)).getD .none, i, tRe X i e) :: hdL X hs = _
      rw [hm]
      rfl
    rw [e1]
    rw [evH_cons2] at r
    have hex : PySem.W.exmOne X.K cls (.ref a) = some (c == c2) := by
      rw [hcls]
      exact o.tb.xc c2 hin2 c hin a2 a g2 hm
    have hno : (c == c2) = false → wG X.K W (DK X.K D) (hdL X hs) cls dd σ H := fun hb => by
      rw [hb] at r
      refine tri_w o hin2 g2 hcls f hfld g6 (fun j hj => hasg j ?_) r
      rw [asgH]
      exact List.mem_append_right _ hj
    subst g4
    have run : ∀ {ρ' : Ev} {dv : PyData}, evA C e ρ' = .ok (.val dv) ρ' → evSs C n io false [.ret e] ρ' = .rt dv ρ' := fun {ρ' dv} z => by
      have e3 : evS C n io false (.ret e) ρ' = .rt dv ρ' := by
        rw [evS, z]
        rfl
      rw [evSs, e3]
    have pal : ∀ {α' : Am} {ρ' : Ev} {σ' : L2.St}, FI X.K P0 α' ρ' σ' H → ∀ b, (P0 b ∨ ∃ i, i ∈ io ∧ α' i = some b) → ∃ o, H b = some o := fun {α' ρ' σ'} f' b hb => by
      rcases hb with hb | ⟨i, _, hb⟩
      · exact f'.pu b (.inl hb)
      · exact f'.pu b (.inr ⟨i, hb⟩)
    rcases g7 with ⟨rfl, rfl⟩ | ⟨i', n', rfl, rfl, k1, k2, k3, k4⟩
    · refine ⟨c == c2, hex, fun hb a' ha' => ?_, hno⟩
      rw [hb] at r
      obtain ⟨dv, q1, q2⟩ := re_ev (C := C) (ρ := ρ) (d0 := .none) (i0 := none) (fun i z => by cases z) g5
      have r : RunO W X.K X.mg P0 false io α σ H asg (evSs C n io false [.ret e] ρ) D := r
      rw [run q2] at r
      exact ⟨.none, dv, fun i z => (by cases z), rfl, q1, fun u H' al rp kf' => r u α σ H' (f.alloc al) (Ex2.of1 (.al al)) (rp _ (pal f))⟩
    · refine ⟨c == c2, hex, fun hb a' ha' => ?_, hno⟩
      rw [hb] at r
      have hc := eq_of_beq hb
      subst hc
      obtain ⟨s, rfl⟩ := hfld.2 k4
      obtain ⟨_, ar, xc⟩ := o.rs c k3
      have : a2 = ar := by
        have z := xc.g
        rw [g2] at z
        cases z
        rfl
      subst this
      by_cases hlt : i' < ρ.length
      · have hset : (ρ.set i' (.xn c (.str s)))[i']? = some (.xn c (.str s)) := List.getElem?_set_self hlt
        obtain ⟨dv, q1, q2⟩ := re_ev (C := C) (ρ := ρ.set i' (.xn c (.str s))) (d0 := .str s) (i0 := some i') (fun i z => by cases z; exact ⟨s, c, rfl, hset⟩) g5
        have r : RunO W X.K X.mg P0 false io α σ H asg (if decide (i' < ρ.length) then (match evSs C n io false [.ret e] (ρ.set i' (.xn c (.str s))) with
          | .nx ρ1 => .nx (ρ1.set i' .un)
          | .ct ρ1 => .ct (ρ1.set i' .un)
          | o => o) else .er "no slot") D := r
        rw [if_pos (decide_eq_true hlt), run q2] at r
        have r : RunO W X.K X.mg P0 false io α σ H asg (.rt dv (ρ.set i' (.xn c (.str s)))) D := r
        have f2 : FI X.K P0 (delA α i') (ρ.set i' (.xn c (.str s))) (σ.set i' (some (.ref a'))) H := f.setUn (.inr ⟨c, _, rfl⟩)
        have x2 : Ex2 asg α σ H (delA α i') (σ.set i' (some (.ref a'))) H := ⟨fun _ _ z _ => z, fun j b z => .inl (delA_le z).1, fun _ z => z, fun j hj => List.getElem?_set_ne fun z => hj (hasg j (by rw [asgH, ← z]; simp))⟩
        refine ⟨.str s, dv, fun i z => ?_, rfl, q1, fun u H' al rp kf' => r u _ _ H' (f2.alloc al) (x2.trans (Ex2.of1 (asg := asg) (.al al)) fun _ z => z) (rp _ (pal f2))⟩
        cases z
        refine ⟨List.getElem?_set_self (by rw [← f.len]; exact hlt), s, rfl, ?_, a2, hcls, xc.f, xc.n⟩
        rcases hfld.1 with ⟨z, _⟩ | ⟨b, fs, s', z1, z2, z3, z4⟩
        · cases z
        · cases z2
          exact ⟨b, fs, z1, z3, z4⟩
      · have r : RunO W X.K X.mg P0 false io α σ H asg (if decide (i' < ρ.length) then (match evSs C n io false [.ret e] (ρ.set i' (.xn c (.str s))) with
          | .nx ρ1 => .nx (ρ1.set i' .un)
          | .ct ρ1 => .ct (ρ1.set i' .un)
          | o => o) else .er "no slot") D := r
        rw [if_neg (by simpa using hlt)] at r
        exact (show False from r).elim
theorem sS_triG {b : List S} {hs : List (String × Option Nat × List S)} {pb : List Stmt} {ph : ExceptHandler} {ps : List ExceptHandler} {pos : Pos} (o : Okx X C defs W T k) (hst : X.stack = X.env :: X.outer) (hfr : X.env.frame = some X.env.locals) (h : chkH T ff hs (ph :: ps) = true)
    (hb : ∀ (W : WX) (pn : List (Addr × Obj)) (xe : Value → Shared → Prop), Takes (X.tr pn xe) W → PassesOwn (model X.prog X.w) X.A X.env xe → PSs (X.tr pn xe) pb (tSs X C W n io ff b)) :
    PS X (.Try pb (ph :: ps) [] [] pos) (tS X C W n io ff (.tri b hs)) := by
  refine ps_by (ps_try_g hst hfr o.nd o.tk hb (hdG_of o h)) ?_
  rintro D σ H kf ⟨P0, α, ρ, f, r⟩
  rw [evS] at r
  have hasg : ∀ jj, jj ∈ asgSs b → jj ∈ asgS (.tri b hs) := fun jj hj => by
    rw [asgS]
    exact List.mem_append_left _ hj
  have hasg2 : ∀ jj, jj ∈ asgH hs → jj ∈ asgS (.tri b hs) := fun jj hj => by
    rw [asgS]
    exact List.mem_append_right _ hj
  refine ⟨P0, α, ρ, f, ?_⟩
  cases ho : evSs C n io ff b ρ with
  | nx ρ' => rw [ho] at r; exact fun α' σ' H' fi y _ => r α' σ' H' fi (y.mono hasg)
  | ct ρ' => rw [ho] at r; exact fun α' σ' H' fi y _ => r α' σ' H' fi (y.mono hasg)
  | rt d ρ' => rw [ho] at r; exact fun u α' σ' H' fi y q _ => r u α' σ' H' fi (y.mono hasg) q
  | er m => rw [ho] at r; exact (show False from r).elim
  | ex c2 d ρ' =>
    rw [ho] at r
    intro α' σ' H' cls dd fi y hx2
    obtain ⟨⟨hin2, a2, g2, hcls⟩, hfld⟩ := hx2
    exact tri_w o hin2 g2 hcls fi hfld h hasg2 (RunO.later (b := asgS (.tri b hs)) r (y.mono hasg) fun _ z => z)
end
end JK

end
section
set_option Elab.async false
set_option linter.all false
set_option autoImplicit false
set_option maxRecDepth 100000
set_option maxHeartbeats 2000000
/-! JkChkS: which text an own statement stands for; every such statement runs as the evaluator says. -/
namespace JK
open PySem PySem.Spec L2
/-- no comprehension -/
def noCp : Expr → Bool
  | .ListComp .. => false | .SetComp .. => false | .DictComp .. => false
  | _ => true
def noTup : Expr → Bool
  | .Tuple .. => false
  | _ => true
def plainIxB : Expr → Bool
  | .Slice .. => false | .Tuple .. => false
  | _ => true
/-- name = e: what is swapped with the comprehension's result -/
def swB (T : Sc) (x : Str) (px : Pos) (q : Expr) : Bool := match q with
  | .ListComp _ gs sc pos => decide (T.sc.names.lookup x = some .cell) ||
      ((decide (T.sc.names.lookup x = some .local) && (px.line == pos.line)) && ((gs.length == 1 || gs.length == 2) && !(sc.names.any fun (n, k) => n == x && (k == .local || k == .cell))))
  | .SetComp .. => false
  | .DictComp .. => false
  | _ => true
def parB (T : Sc) (x y : Str) (px py : Pos) (p q : Expr) : Bool :=
  (decide (T.sc.names.lookup x = some .local) && decide (T.sc.names.lookup y = some .local)) && (((py.line == px.line) && !(y == x)) && ((nonStar p && nonStar q) && (!(foldedForSure 8 p && foldedForSure 8 q) && !(constantsAlone 8 p && constantsAlone 8 q))))
/-- a target that is no plain local: nothing is swapped -/
def notSw (T : Sc) (ns : List Expr) : Bool := ns.any fun p => match p with
  | .Name id _ => !(T.sc.names.lookup id == some .local)
  | _ => true
mutual
def chkS (T : Sc) (ff : Bool) : S → Stmt → Bool
  | .expr e, p => (match p with | .Expr q _ => noCp q && chkE T e q | _ => false)
  | .app i e, p => (match p with | .Expr (.Call (.Attribute (.Name x _) m apos) [q] [] cpos) _ => visB T i x && (decide (m = ("append" : Str)) && ((apos.endLine == cpos.line) && (nonStar q && chkE T e q))) | _ => false)
  | .ext _ _, _ => false
  | .asg i e, p => (match p with | .Assign [.Name x px] q _ => stoB T i x && (swB T x px q && chkE T e q) | _ => false)
  | .own i e, p => (match p with | .Assign [.Name x px] q _ => stoB T i x && (swB T x px q && chkE T e q) | _ => false)
  | .asgT is e, p => (match p with | .Assign [.Tuple ns kk tp] q _ => ((noTup q || notSw T ns) && chkT T (.tp is) (.Tuple ns kk tp)) && chkE T e q | _ => false)
  | .par is es, p => (match is, es, p with
    | [(i, _), (j, _)], [a, b], .Assign [.Tuple [.Name x px, .Name y py] _ _] (.Tuple [p, q] _ _) _ =>
      ((stoB T i x && stoB T j y) && (decide (i ≠ j) && parB T x y px py p q)) && (chkE T a p && chkE T b q)
    | _, _, _ => false)
  | .seti i a b, p => (match p with | .Assign [.Subscript (.Name x _) pa _] pb _ => (visB T i x && plainIxB pa) && (chkE T a pa && chkE T b pb) | _ => false)
  | .aug i o e, p => (match p with | .AugAssign (.Name x _) op pe _ => (stoB T i x && augOp op o) && chkE T e pe | _ => false)
  | .augs i a o e, p => (match p with | .AugAssign (.Subscript (.Name x _) pa _) op pe _ => (visB T i x && (plainIxB pa && augOp op o)) && (chkE T a pa && chkE T e pe) | _ => false)
  | .ret e, p => (match p with | .Return (some q) _ => (!ff || plainA e || (match e with | .bor _ => true | _ => false)) && chkE T e q | _ => false)
  | .ret0, p => (match p with | .Return none _ => true | _ => false)
  | .ifs c a b, p => (match p with | .If pc pa pb _ => chkE T c pc && (chkSs T ff a pa && chkSs T ff b pb) | _ => false)
  | .whl c b, p => (match p with | .While pc pb [] _ => chkE T c pc && chkSs T ff b pb | _ => false)
  | .for_ tg k es b, p => (match p with | .For ptg pit pb [] _ => (chkT T tg ptg && (match itArgs T k es.length ptg pit with | some ps => chkEs T es ps | none => false)) && chkSs T ff b pb | _ => false)
  | .raise c es, p => (match es, p with
    | [], .Raise (some (.Call (.Name x _) [.Constant (.str _) _ _] [] _)) none _ => (glB T c x && T.xs c) && decide (c = "Malformed")
    | [.str s], .Raise (some (.Call (.Name x _) [.Constant (.str m) _ _] [] _)) none _ => (glB T c x && T.rs c) && decide (s = m)
    | _, _ => false)
  | .tri b hs, p => (match p with
    | .Try pb (ph :: ps) [] [] _ => chkH T ff hs (ph :: ps) && chkSs T ff b pb
    | _ => false)
  | .cnt, p => (match p with | .Continue _ => true | _ => false)
  | .pas, p => (match p with | .Pass _ => true | _ => false)
def chkSs (T : Sc) (ff : Bool) : List S → List Stmt → Bool
  | [], [] => true
  | s :: ss, p :: ps => chkS T ff s p && chkSs T ff ss ps
  | _, _ => false
end
section
variable {C : Cfg} {defs : String → Option Df} {k n : Nat} {io : List Nat} {ff : Bool}
structure OkS (X : Cx) (C : Cfg) (defs : String → Option Df) (W : WX) (T : Sc) (k : Nat) : Prop where
  ok : Okx X C defs W T k
  po : PassesOwn (model X.prog X.w) X.A X.env X.xe
  st : X.stack = X.env :: X.outer
  fr : X.env.frame = some X.env.locals
  kd : X.env.scope.kind = .function
def SndS (C : Cfg) (defs : String → Option Df) (k n : Nat) (io : List Nat) (ff : Bool) (s : S) : Prop := ∀ (X : Cx) (W : WX) (T : Sc), OkS X C defs W T k → ∀ p, chkS T ff s p = true → PS X p (tS X C W n io ff s)
def SndSs (C : Cfg) (defs : String → Option Df) (k n : Nat) (io : List Nat) (ff : Bool) (s : List S) : Prop := ∀ (X : Cx) (W : WX) (T : Sc), OkS X C defs W T k → ∀ p, chkSs T ff s p = true → PSs X p (tSs X C W n io ff s)
theorem noCp_sw {q : Expr} {t : Option Expr} {l : Nat} {env : Env} (h : noCp q = true) : swapsWith q t l env = pure false := by
  cases q <;> first | rfl | cases h
/-- name = e -/
theorem snd_set {X : Cx} {W : WX} {T : Sc} (o : OkS X C defs W T k) {i : Nat} {x : Str} {px pos : Pos} {q : Expr} {e : E} {fr : Bool} (hi : stoB T i x = true) (hs : swB T x px q = true) (h : chkE T e q = true) (hf : fr = true → freshE C.ff e = true) : PS X (.Assign [.Name x px] q pos) (tSt X C W fr e i) := by
  obtain ⟨g1, g2, g3⟩ := sto_of o.ok hi
  have he := (sndP e X W T o.ok q h).1 fr hf
  unfold swB at hs
  split at hs
  · rename_i elt gs sc lp
    rcases Bool.or_eq_true_iff.mp hs with z | z
    · have z := of_decide_eq_true z
      refine ps_set o.ok.nd g1 g2 he ?_ g3
      have : X.env.kindOf x = some .cell := by show X.env.scope.names.lookup x = _; rw [o.ok.sc]; exact z
      unfold swapsWith
      simp only [this]
      cases X.env.blockKind <;> rfl
    · obtain ⟨z1, z2⟩ := dec2 z
      obtain ⟨z3, z4⟩ := dec2 z1
      obtain ⟨z5, z6⟩ := dec2 z2
      have hl : X.env.scope.names.lookup x = some .local := by rw [o.ok.sc]; exact of_decide_eq_true z3
      have hsw : swapsWith (.ListComp elt gs sc lp) (some (.Name x px)) pos.line X.env = pure true := sw_true o.kd hl z4 ((Bool.not_eq_true' _).mp z6)
      have dk : ∀ {t : TE} {D : Ends} {σ : L2.St} {H : Hp}, t σ H (fun u H' => KF X.K H' → D.nx (σ.set i (some u)) H') = tAsg t (gName i) (DK X.K D) σ H := fun {t D σ H} => rfl
      cases e with
      | comp elt' tg kk es cs vs =>
        unfold chkE at h
        split at h
        · rename_i pe g0 scope0 pos0 eq0
          cases eq0
          split at h
          · obtain ⟨h1, h2⟩ := dec2 h
            obtain ⟨h3, h4⟩ := dec2 h1
            obtain ⟨h5, h6⟩ := dec2 h3
            obtain ⟨h7, h8⟩ := dec2 h2
            obtain ⟨h9, h10⟩ := dec2 h8
            split at h7
            · rename_i ps hps
              obtain ⟨q1, q2⟩ := snd_it o.ok (sndL es) hps h7
              refine ps_by (ps_setLc (g := gK X.K tg) (tt := tC' X C WF cs) (te := tE X C WF false elt') o.ok.calm o.ok.nd g1 hl hsw (pi_kf q1) (by rw [o.ok.N, o.ok.sc]; exact blkOk_by h5) (fun s H C' cl fp => pg_kf (pg_any (okx_blk o.ok s H C' cl fp _) h4))
                (fun s H C' cl fp => snd_cs (okx_blk o.ok s H C' cl fp _) (sndL cs) h9) (fun s H C' cl fp => (sndP elt' _ _ _ (okx_blk o.ok s H C' cl fp _) _ h10).e) (q2 _)) ?_
              rw [own_vs]
              intro D σ H kf hz
              exact comp_w h6 σ H _ kf hz
            · cases h7
          · cases h
        · cases h
      | comp2 elt' tg kk es cs tg1 k1 es1 cs1 vs vs1 =>
        unfold chkE at h
        split at h
        · rename_i pe g0 g00 scope0 pos0 eq0
          cases eq0
          split at h
          · obtain ⟨h1, h2⟩ := dec2 h
            obtain ⟨h3, h4⟩ := dec2 h1
            obtain ⟨h5, h6⟩ := dec2 h3
            obtain ⟨h7, h8⟩ := dec2 h5
            obtain ⟨h9, h10⟩ := dec2 h4
            obtain ⟨h11, h12⟩ := dec2 h9
            obtain ⟨h13, h14⟩ := dec2 h2
            obtain ⟨h15, h16⟩ := dec2 h13
            obtain ⟨h17, h18⟩ := dec2 h14
            obtain ⟨h19, h20⟩ := dec2 h17
            split at h15
            · rename_i ps hps
              split at h16
              · rename_i ps1 hps1
                obtain ⟨q1, q2⟩ := snd_it o.ok (sndL es) hps h15
                refine ps_by (ps_setLc2 (g := gK X.K tg) (g1 := gT X.K tg1) (tt := tC' X C WF cs) (tt1 := tC' X C WF cs1) (te := tE X C WF false elt') (vs1 := vs1) (wi1 := fun σ H R => tI X C WF k1 es1 σ H fun J H' => KF X.K H' → R J H') o.ok.calm o.ok.nd g1 hl hsw (pi_kf q1) (by rw [o.ok.N, o.ok.sc]; exact blkOk_by h7) (fun i h => by rw [own_vs]; simpa using List.all_eq_true.mp h10 i h)
                  (fun s H C' cl fp => pg_kf (pg_any (okx_blk o.ok s H C' cl fp _) h6)) (fun s H C' cl fp => snd_cs (okx_blk o.ok s H C' cl fp _) (sndL cs) h19) (fun s H C' cl fp => pi_kf (snd_it (okx_blk o.ok s H C' cl fp _) (sndL es1) hps1 h16).1)
                  (fun s H C' cl fp => pg_any (okx_blk o.ok s H C' cl fp _) h11) (fun s H C' cl fp => snd_cs (okx_blk o.ok s H C' cl fp _) (sndL cs1) h20) (fun s H C' cl fp => (sndP elt' _ _ _ (okx_blk o.ok s H C' cl fp _) _ h18).e) (q2 _) (fold_it hps1)) ?_
                rw [own_vs]
                intro D σ H kf hz
                exact comp2_w h8 h12 h10 σ H _ kf hz
              · cases h16
            · cases h15
          · cases h
        · cases h
      | _ => exact absurd h (by unfold chkE; simp)
  · cases hs
  · cases hs
  · rename_i h1 h2 h3
    refine ps_set o.ok.nd g1 g2 he ?_ g3
    cases q <;> first | rfl | (exact absurd rfl (h1 _ _ _ _)) | (exact absurd rfl (h2 _ _ _ _)) | (exact absurd rfl (h3 _ _ _ _ _))
theorem noTup_sw {is : List Expr} {kk : Nat} {tp : Pos} {q : Expr} {l : Nat} {env : Env} (h : noTup q = true) : swapsWithSole [.Tuple is kk tp] q l env = pure false ∧ swappedStores [.Tuple is kk tp] q env = pure none := by
  cases q <;> first | exact ⟨rfl, rfl⟩ | cases h
theorem sub_sw {o i : Expr} {tp : Pos} {q : Expr} {l : Nat} {env : Env} : swapsWithSole [.Subscript o i tp] q l env = pure false ∧ swappedStores [.Subscript o i tp] q env = pure none := by
  cases q <;> exact ⟨rfl, rfl⟩
theorem star_no {p : Expr} (h : nonStar p = true) : (match (generalizing := false) p with | .Starred .. => true | _ => false) = false := by
  cases p <;> first | rfl | cases h
theorem par_sw {X : Cx} {W : WX} {T : Sc} (o : OkS X C defs W T k) {x y : Str} {px py : Pos} {p q : Expr} {kt k2 : Nat} {pt pt2 : Pos} (h : parB T x y px py p q = true) : swappedStores [.Tuple [.Name x px, .Name y py] kt pt] (.Tuple [p, q] k2 pt2) X.env = pure (some [x, y]) := by
  obtain ⟨h1, h2⟩ := dec2 h
  obtain ⟨h3, h4⟩ := dec2 h1
  obtain ⟨h5, h6⟩ := dec2 h2
  obtain ⟨h7, h8⟩ := dec2 h5
  obtain ⟨h9, h10⟩ := dec2 h6
  obtain ⟨h11, h12⟩ := dec2 h9
  obtain ⟨h13, h14⟩ := dec2 h10
  have hb : X.env.blockKind = .function := by unfold Env.blockKind; rw [o.kd]; rfl
  have kx : X.env.kindOf x = some .local := by show X.env.scope.names.lookup x = _; rw [o.ok.sc]; exact of_decide_eq_true h3
  have ky : X.env.kindOf y = some .local := by show X.env.scope.names.lookup y = _; rw [o.ok.sc]; exact of_decide_eq_true h4
  have hp : (match (generalizing := false) p with | .Starred .. => true | _ => false) = false := star_no h11
  have hq : (match (generalizing := false) q with | .Starred .. => true | _ => false) = false := star_no h12
  have hl : py.line = px.line := by simpa using h7
  have hyx : (y == x) = false := by simpa using h8
  have hf : (foldedForSure 8 p && foldedForSure 8 q) = false := (Bool.not_eq_true' _).mp h13
  have hcn : (constantsAlone 8 p && constantsAlone 8 q) = false := (Bool.not_eq_true' _).mp h14
  unfold swappedStores
  simp only [hb, kx, ky, List.length_cons, List.length_nil, List.any_cons, List.any_nil, List.all_cons, List.all_nil, Bool.and_true, Bool.or_false, hf, hcn, List.filterMap_cons, List.filterMap_nil, List.head?_cons, Option.map_some, Option.getD_some, Expr.pos, hl, List.eraseDups_cons, List.filter_cons, List.filter_nil, hyx]
  have hss : (ScopeKind.function != ScopeKind.function) = false := rfl
  have hlo : ((some NameKind.local : Option NameKind) == some NameKind.local) = true := rfl
  simp [hss, hp, hq, hlo]
  rw [if_neg (by
    rintro (z | z)
    · exact Bool.noConfusion (hp.symm.trans z)
    · exact Bool.noConfusion (hq.symm.trans z))]
  have he : [x, y].eraseDups = [x, y] := by
    simp [List.eraseDups_cons, hyx]
  rw [he]
  rfl
theorem fm_lt {α β : Type} {f : α → Option β} : ∀ {l : List α}, (∃ a, a ∈ l ∧ f a = none) → (l.filterMap f).length < l.length
  | [], h => by obtain ⟨_, h, _⟩ := h; cases h
  | a :: l, h => by
    obtain ⟨b, hb, hf⟩ := h
    have hle : (l.filterMap f).length ≤ l.length := List.length_filterMap_le f l
    rcases List.mem_cons.mp hb with z | z
    · subst z
      rw [List.filterMap_cons_none hf, List.length_cons]
      omega
    · have ih := fm_lt (f := f) ⟨b, z, hf⟩
      cases q : f a with
      | none => rw [List.filterMap_cons_none q, List.length_cons]; omega
      | some c => rw [List.filterMap_cons_some q, List.length_cons, List.length_cons]; omega
theorem not_sw {X : Cx} {W : WX} {T : Sc} (o : OkS X C defs W T k) {ns : List Expr} {kk : Nat} {tp : Pos} {q : Expr} (h : notSw T ns = true) : swappedStores [.Tuple ns kk tp] q X.env = pure none := by
  cases q <;> try rfl
  rename_i vs k2 p2
  obtain ⟨p, hp, hn⟩ := List.any_eq_true.mp h
  unfold swappedStores
  simp only []
  split
  · rfl
  · split
    · rfl
    · split
      · rfl
      · rename_i hno
        exfalso
        apply hno
        rw [Bool.or_eq_true_iff]
        left
        rw [bne_iff_ne]
        refine Nat.ne_of_lt (fm_lt ⟨p, hp, ?_⟩)
        cases p <;> try rfl
        rename_i id pos
        have hk : X.env.kindOf id = T.sc.names.lookup id := by show X.env.scope.names.lookup id = _; rw [o.ok.sc]
        have hn : (T.sc.names.lookup id == some .local) = false := by simpa using hn
        simp only [hk, hn, Bool.false_and, Bool.false_eq_true, if_false]
theorem asgT_sw {X : Cx} {W : WX} {T : Sc} (o : OkS X C defs W T k) {ns : List Expr} {kk : Nat} {tp : Pos} {q : Expr} {l : Nat} (h : (noTup q || notSw T ns) = true) : swapsWithSole [.Tuple ns kk tp] q l X.env = pure false ∧ swappedStores [.Tuple ns kk tp] q X.env = pure none := by
  rcases Bool.or_eq_true_iff.mp h with h | h
  · exact noTup_sw h
  · exact ⟨by cases q <;> rfl, not_sw o h⟩
mutual
theorem sndS : ∀ s : S, SndS C defs k n io ff s
  | .expr e => fun X W T o p h => by
    unfold chkS at h
    split at h
    · obtain ⟨h1, h2⟩ := dec2 h
      exact sS_expr (noCp_sw h1) (sndP e X W T o.ok _ h2).e
    · cases h
  | .app i e => fun X W T o p h => by
    unfold chkS at h
    split at h
    · obtain ⟨h1, h2⟩ := dec2 h
      obtain ⟨h3, h4⟩ := dec2 h2
      obtain ⟨h5, h6⟩ := dec2 h4
      obtain ⟨h7, h8⟩ := dec2 h6
      exact sS_app o.ok h1 (of_decide_eq_true h3) h5 h7 (sndP e X W T o.ok _ h8).e
    · cases h
  | .ext _ _ => fun X W T o p h => by unfold chkS at h; cases h
  | .asg i e => fun X W T o p h => by
    unfold chkS at h
    split at h
    · obtain ⟨h1, h2⟩ := dec2 h
      obtain ⟨h3, h4⟩ := dec2 h2
      exact sS_asg (snd_set o h1 h3 h4 fun z => by cases z)
    · cases h
  | .own i e => fun X W T o p h => by
    unfold chkS at h
    split at h
    · obtain ⟨h1, h2⟩ := dec2 h
      obtain ⟨h3, h4⟩ := dec2 h2
      exact sS_own fun hf => snd_set o h1 h3 h4 fun _ => hf
    · cases h
  | .asgT is e => fun X W T o p h => by
    unfold chkS at h
    split at h
    · obtain ⟨h1, h2⟩ := dec2 h
      obtain ⟨h3, h4⟩ := dec2 h1
      obtain ⟨q1, q2⟩ := asgT_sw o h3
      exact sS_asgT (sndP e X W T o.ok _ h2).e (pg_any o.ok h4) q1 q2 rfl
    · cases h
  | .par is es => fun X W T o p h => by
    unfold chkS at h
    split at h
    · obtain ⟨h1, h2⟩ := dec2 h
      obtain ⟨h3, h4⟩ := dec2 h1
      obtain ⟨h5, h6⟩ := dec2 h3
      obtain ⟨h7, h8⟩ := dec2 h4
      obtain ⟨h11, h12⟩ := dec2 h2
      obtain ⟨g1, g2, g3⟩ := sto_of o.ok h5
      obtain ⟨g4, g5, g6⟩ := sto_of o.ok h6
      obtain ⟨z1, z2⟩ := dec2 h8
      obtain ⟨z3, z4⟩ := dec2 z1
      obtain ⟨_, z5⟩ := dec2 z2
      obtain ⟨z6, _⟩ := dec2 z5
      obtain ⟨z7, z8⟩ := dec2 z6
      exact sS_par2 o.ok.calm o.ok.nd g1 g4 (of_decide_eq_true h7) (by rw [o.ok.sc]; exact of_decide_eq_true z3) (by rw [o.ok.sc]; exact of_decide_eq_true z4) (fun fr hf => (sndP _ X W T o.ok _ h11).1 fr hf) (fun fr hf => (sndP _ X W T o.ok _ h12).1 fr hf) z7 z8 (par_sw o h8)
    · cases h
  | .seti i a b => fun X W T o p h => by
    unfold chkS at h
    split at h
    · obtain ⟨h1, h2⟩ := dec2 h
      obtain ⟨h3, h4⟩ := dec2 h1
      obtain ⟨h5, h6⟩ := dec2 h2
      obtain ⟨q1, q2⟩ := sub_sw
      refine sS_seti o.ok h3 (sndP a X W T o.ok _ h5).e (sndP b X W T o.ok _ h6).e q1 q2 fun v => ?_
      rename_i pa _ _ _
      cases pa <;> first | rfl | cases h4
    · cases h
  | .aug i q e => fun X W T o p h => by
    unfold chkS at h
    split at h
    · obtain ⟨h1, h2⟩ := dec2 h
      obtain ⟨h3, h4⟩ := dec2 h1
      exact sS_aug o.ok h3 h4 (sndP e X W T o.ok _ h2).e
    · cases h
  | .augs i a q e => fun X W T o p h => by
    unfold chkS at h
    split at h
    · obtain ⟨h1, h2⟩ := dec2 h
      obtain ⟨h3, h4⟩ := dec2 h1
      obtain ⟨h5, h6⟩ := dec2 h4
      obtain ⟨h7, h8⟩ := dec2 h2
      refine sS_augs o.ok h3 h6 (sndP a X W T o.ok _ h7).e (sndP e X W T o.ok _ h8).e fun ov iv new => ?_
      rename_i pa _ _ _ _
      cases pa <;> first | rfl | cases h5
    · cases h
  | .ret e => fun X W T o p h => by
    unfold chkS at h
    split at h
    · obtain ⟨h1, h2⟩ := dec2 h
      have z := sndP e X W T o.ok _ h2
      refine sS_ret z.a (fun hf => z.1 true fun _ => hf) fun hff => ?_
      subst hff
      rcases Bool.or_eq_true_iff.mp h1 with h1 | h1
      · exact .inl (by simpa using h1)
      · split at h1
        · exact .inr rfl
        · cases h1
    · cases h
  | .ret0 => fun X W T o p h => by
    unfold chkS at h
    split at h
    · exact sS_ret0
    · cases h
  | .ifs c a b => fun X W T o p h => by
    unfold chkS at h
    split at h
    · obtain ⟨h1, h2⟩ := dec2 h
      obtain ⟨h3, h4⟩ := dec2 h2
      exact sS_ifs (sndP c X W T o.ok _ h1).t (sndSs a X W T o _ h3) (sndSs b X W T o _ h4)
    · cases h
  | .whl c b => fun X W T o p h => by
    unfold chkS at h
    split at h
    · obtain ⟨h1, h2⟩ := dec2 h
      exact sS_whl o.po (sndP c X W T o.ok _ h1).t (sndSs b X W T o _ h2)
    · cases h
  | .for_ tg kk es b => fun X W T o p h => by
    unfold chkS at h
    split at h
    · obtain ⟨h1, h2⟩ := dec2 h
      obtain ⟨h3, h4⟩ := dec2 h1
      split at h4
      · rename_i ps hps
        obtain ⟨q1, q2⟩ := snd_it o.ok (sndL es) hps h4
        exact sS_for o.po o.ok.calm q1 (pg_any o.ok h3) (sndSs b X W T o _ h2) (q2 _)
      · cases h4
    · cases h
  | .raise c es => fun X W T o p h => by
    unfold chkS at h
    split at h
    · obtain ⟨h1, h2⟩ := dec2 h
      obtain ⟨h3, h4⟩ := dec2 h1
      exact sS_raise o.ok h3 h4 (of_decide_eq_true h2)
    · obtain ⟨h1, h2⟩ := dec2 h
      obtain ⟨h3, h4⟩ := dec2 h1
      have := of_decide_eq_true h2
      subst this
      exact sS_raiseR o.ok h3 h4
    · cases h
  | .tri b hs => fun X W T o p h => by
    unfold chkS at h
    split at h
    · obtain ⟨h1, h2⟩ := dec2 h
      exact sS_triG o.ok o.st o.fr h1 fun W' pn xe tk po => sndSs b (X.tr pn xe) W' T ⟨⟨o.ok.N, o.ok.nd, o.ok.sc, o.ok.fn, o.ok.calm, tk, o.ok.tb, o.ok.room, o.ok.df, o.ok.xs, o.ok.rs, o.ok.ge⟩, po, o.st, o.fr, o.kd⟩ _ h2
    · cases h
  | .cnt => fun X W T o p h => by
    unfold chkS at h
    split at h
    · exact sS_cnt
    · cases h
  | .pas => fun X W T o p h => by
    unfold chkS at h
    split at h
    · exact sS_pas
    · cases h
theorem sndSs : ∀ s : List S, SndSs C defs k n io ff s
  | [] => fun X W T o p h => by
    unfold chkSs at h
    split at h
    · exact sSs_nil
    · rename_i hh; cases hh
    · cases h
  | s :: ss => fun X W T o p h => by
    unfold chkSs at h
    split at h
    · rename_i hh; cases hh
    · rename_i s' ss' p ps hh
      cases hh
      obtain ⟨h1, h2⟩ := dec2 h
      exact sSs_cons (sndS s X W T o _ h1) (sndSs ss X W T o _ h2)
    · cases h
end
end
end JK

end
section
set_option Elab.async false
set_option linter.all false
set_option autoImplicit false
set_option maxRecDepth 100000
set_option maxHeartbeats 2000000
/-! JkFun: a def keeps its promise; all defs of a program, by the depth of calls. -/
namespace JK
open PySem PySem.Spec L2
section
variable {K : PySem.W.Frag} {P0 : Addr → Prop} {α α0 α' : Am} {ρ ρ' : Ev} {σ σ' : L2.St} {H H' : Hp} {io : List Nat} {ios : List D}
theorem FI.app (f : FI K P0 α ρ σ H) (m : Nat) : FI K P0 α (ρ ++ List.replicate m .un) (σ ++ List.replicate m none) H := by
  have at_ : ∀ {i : Nat} {s : Sl}, (ρ ++ List.replicate m Sl.un)[i]? = some s → s ≠ .un → ρ[i]? = some s := fun {i s} e n => by
    rw [List.getElem?_append] at e
    split at e
    · exact e
    · rw [List.getElem?_replicate] at e
      split at e
      · cases e; exact absurd rfl n
      · cases e
  have sat : ∀ {i : Nat} {v : Option V}, σ[i]? = some v → (σ ++ List.replicate m none)[i]? = some v := fun {i v} e => by
    rw [List.getElem?_append_left (List.getElem?_eq_some_iff.mp e).1]
    exact e
  refine ⟨by rw [List.length_append, List.length_append, List.length_replicate, List.length_replicate, f.len], fun i d e => ?_, fun i d e => ?_, fun i a e => ?_, f.inj, f.p0⟩
  · obtain ⟨v, h1, h2⟩ := f.sh i d (at_ e (by simp))
    exact ⟨v, sat h1, h2⟩
  · obtain ⟨a, h1, h2, h3⟩ := f.ow i d (at_ e (by simp))
    exact ⟨a, h1, sat h2, h3⟩
  · obtain ⟨d, q⟩ := f.al i a e
    exact ⟨d, by rw [List.getElem?_append_left (List.getElem?_eq_some_iff.mp q).1]; exact q⟩
/-- the handed lists at the end -/
theorem io_same (f' : FI K P0 α' ρ' σ' H') (hst : ∀ i, i ∈ io → ∃ a, α0 i = some a ∧ σ[i]? = some (some (.ref a))) (off : ∀ i, i ∈ io → σ'[i]? = σ[i]?) : ∀ {js : List Nat} {ios : List D}, (∀ j, j ∈ js → j ∈ io) → outIo ρ' js = some ios → ∀ i, i ∈ js → α' i = α0 i
  | [], ios, _, h, i, hi => by cases hi
  | j :: js, ios, hs, h, i, hi => by
    unfold outIo at h
    split at h
    · rename_i d e
      obtain ⟨ios', h1, _⟩ := Option.map_eq_some_iff.mp h
      rcases List.mem_cons.mp hi with z | z
      · subst z
        obtain ⟨a, q1, q2, _⟩ := f'.ow i d e
        obtain ⟨b, q3, q4⟩ := hst i (hs i (List.mem_cons_self ..))
        rw [off i (hs i (List.mem_cons_self ..)), q4] at q2
        cases q2
        rw [q1, q3]
      · exact io_same f' hst off (fun j hj => hs j (List.mem_cons_of_mem _ hj)) h1 i z
    · cases h
theorem io_end (f' : FI K P0 α' ρ' σ' H') (hp : ∀ a, PU P0 α0 a → PU P0 α' a) : ∀ {js : List Nat} {ios : List D}, outIo ρ' js = some ios → (∀ i, i ∈ js → α' i = α0 i) → IoP K P0 α0 H' js ios
  | [], ios, h, _ => by cases h; exact trivial
  | j :: js, ios, h, hs => by
    unfold outIo at h
    split at h
    · rename_i d e
      obtain ⟨ios', h1, rfl⟩ := Option.map_eq_some_iff.mp h
      obtain ⟨a, q1, _, xs, ds, q3, q4, q5⟩ := f'.ow j d e
      exact ⟨⟨a, (hs j (List.mem_cons_self ..)) ▸ q1, xs, ds, q3, q4, q5.sub hp⟩, io_end f' hp h1 fun i hi => hs i (List.mem_cons_of_mem _ hi)⟩
    · cases h
end
section
variable {P : Program} {w : World} {K : PySem.W.Frag} {mg : Str → Option Value} {base : Heap} {C : Cfg} {defs : String → Option Df} {k n : Nat}
/-- the body's run, from the promise -/
theorem body_run {df : Df} {P0 : Addr → Prop} {α0 : Am} {ds : List D} {vs : List V} {H : Hp} {Q : VK} {E : XK} (f0 : FI K P0 α0 (slots0 df.io 0 ds) (vs.map some) H) (hα : ∀ i a, α0 i = some a → i ∈ df.io)
    (hm : match bodyC C n df ds with
      | .ok d ios => ∀ u H', Kp α0 H H' → IoP K P0 α0 H' df.io ios → ResF K P0 α0 df.ff H H' u d → Q u H'
      | .ex c d ios => ∀ cls dd H', Kp α0 H H' → IoP K P0 α0 H' df.io ios → ExR mg c d cls dd H' → E cls dd H'
      | .er _ => False) :
    RunO (fun cls d _ H => E cls d H) K mg P0 df.ff df.io α0 (vs.map some ++ List.replicate (df.ns - df.np) none) H (asgSs df.body) (evSs C n df.io df.ff df.body (slots0 df.io 0 ds ++ List.replicate (df.ns - df.np) .un)) ⟨fun _ H' => Q .non H', Q, fun _ _ => False, fun _ _ => False⟩ := by
  generalize hb : bodyC C n df ds = rc at hm
  unfold bodyC at hb
  split at hb
  · subst hb
    exact hm.elim
  · split at hb
    · subst hb
      exact hm.elim
    · rename_i hffio
      split at hb
      · subst hb
        exact hm.elim
      · rename_i hio
        subst hb
        have hio : df.io.any (fun i => (asgSs df.body).contains i || !((ds[i]?).map isLst == some true)) = false := by simpa only [Bool.not_eq_true] using hio
        have hio2 : ∀ i, i ∈ df.io → i ∉ asgSs df.body ∧ ∃ d, ds[i]? = some d := fun i hi => by
          have := List.any_eq_false.mp hio i hi
          have : (asgSs df.body).contains i = false ∧ (!((ds[i]?).map isLst == some true)) = false := by
            rw [Bool.not_eq_true, Bool.or_eq_false_iff] at this
            exact this
          refine ⟨by simpa using this.1, ?_⟩
          cases q : ds[i]? with
          | none => rw [q] at this; exact absurd this.2 (by decide)
          | some d => exact ⟨d, rfl⟩
        have hst : ∀ i, i ∈ df.io → ∃ a, α0 i = some a ∧ (vs.map some ++ List.replicate (df.ns - df.np) none)[i]? = some (some (.ref a)) := fun i hi => by
          obtain ⟨_, d, hd⟩ := hio2 i hi
          obtain ⟨a, q1, q2, _⟩ := f0.ow i d (by rw [slots0_get, hd, Nat.zero_add]; simp [hi])
          exact ⟨a, q1, by rw [List.getElem?_append_left (List.getElem?_eq_some_iff.mp q2).1]; exact q2⟩
        have kp : ∀ {α' σ' H'}, Ex2 (asgSs df.body) α0 (vs.map some ++ List.replicate (df.ns - df.np) none) H α' σ' H' → Kp α0 H H' := fun x => ⟨x.keep, x.there⟩
        have same : ∀ {α' σ' H' ρ' ios}, FI K P0 α' ρ' σ' H' → Ex2 (asgSs df.body) α0 (vs.map some ++ List.replicate (df.ns - df.np) none) H α' σ' H' → outIo ρ' df.io = some ios → (∀ i, i ∈ df.io → α' i = α0 i) := fun f' x h =>
          io_same f' hst (fun i hi => x.off i (hio2 i hi).1) (fun _ z => z) h
        have pu : ∀ {α' : Am}, (∀ i, i ∈ df.io → α' i = α0 i) → ∀ a, PU P0 α0 a → PU P0 α' a := fun h a q => q.imp id fun ⟨i, e⟩ => ⟨i, by rw [h i (hα i a e)]; exact e⟩
        generalize ho : evSs C n df.io df.ff df.body (slots0 df.io 0 ds ++ List.replicate (df.ns - df.np) .un) = o at hm
        cases o with
        | er m => exact hm.elim
        | ct ρ' => exact hm.elim
        | nx ρ' =>
          intro α' σ' H' f' x
          unfold finC at hm
          cases hff : df.ff with
          | true => simp only [hff, if_true] at hm
          | false =>
            simp only [hff, Bool.false_eq_true, if_false] at hm
            cases e : outIo ρ' df.io with
            | none => simp only [e] at hm
            | some ios =>
              simp only [e] at hm
              have hs := same f' x e
              exact hm .non H' (kp x) (io_end f' (pu hs) e hs) .non
        | rt d ρ' =>
          intro u α' σ' H' f' x r
          unfold finC at hm
          cases e : outIo ρ' df.io with
          | none => simp only [e] at hm
          | some ios =>
            simp only [e] at hm
            have hs := same f' x e
            refine hm u H' (kp x) (io_end f' (pu hs) e hs) ?_
            unfold RtV at r
            unfold ResF
            cases hff : df.ff with
            | true =>
              rw [hff] at r
              obtain ⟨a, xs, es, e1, e2, e3, e4, e5⟩ := r
              have hnil : df.io = [] := by
                cases q : df.io with
                | nil => rfl
                | cons _ _ => rw [hff, q] at hffio; exact absurd rfl hffio
              have hno : ∀ i a, α0 i ≠ some a := fun i a z => by
                have := hα i a z
                rw [hnil] at this
                cases this
              refine ⟨a, xs, es, e1, e2, ?_, e4, e5.sub fun b q => ?_⟩
              · rcases e3 with e3 | ⟨i, e3⟩
                · exact e3
                · exact absurd e3 (hno i a)
              · rcases q with (q | ⟨i, q⟩) | q
                · exact .inl q
                · exact absurd q (hno i b)
                · exact .inr q
            | false =>
              rw [hff] at r
              refine Rep.sub r fun b q => ?_
              rcases q with q | ⟨i, q⟩
              · exact .inl q
              · exact .inr ⟨i, hα i b q, by rw [hs i (hα i b q)]; exact q⟩
        | ex c d ρ' =>
          intro α' σ' H' cls dd f' x r
          unfold finC at hm
          cases e : outIo ρ' df.io with
          | none => simp only [e] at hm
          | some ios =>
            simp only [e] at hm
            have hs := same f' x e
            exact hm cls dd H' (kp x) (io_end f' (pu hs) e hs) r
/-- a def's text, and what it is -/
structure DefOk (P : Program) (K : PySem.W.Frag) (mg : Str → Option Value) (defs : String → Option Df) (f : String) (df : Df) : Prop where
  ex : ∃ (a : Addr) (fd : FuncData) (x qual : Str) (ps : List Str) (T : Sc) (params : Arguments) (body : List Stmt), mg (Str.ofString f) = some (.ref a) ∧ FunD K x qual params body T.sc [] [] a fd ∧ FnScope T.N ps T.sc ∧ ps.length = df.np ∧ T.N.length = df.ns ∧
    chkSs T df.ff df.body body = true ∧ Binds K fd ps [] ∧ (∀ g, T.df g = true → ∃ d, defs g = some d) ∧ (∀ c, T.xs c = true → c ∈ xsAll ∧ ∃ a, XcK K mg c a) ∧ ∀ c, T.rs c = true → c ∈ xsAll ∧ ∃ a, RefK P K mg c a
theorem def_fn {f : String} {df : Df} {a : Addr} {fd : FuncData} {x qual : Str} {ps : List Str} {T : Sc} {params : Arguments} {body : List Stmt} (tb : Tbl P w K mg base k C defs) (F : FunD K x qual params body T.sc [] [] a fd) (S : FnScope T.N ps T.sc) (h2 : ps.length = df.np) (h3 : T.N.length = df.ns)
    (h4 : chkSs T df.ff df.body body = true) (h6 : ∀ g, T.df g = true → ∃ d, defs g = some d) (h7 : ∀ c, T.xs c = true → c ∈ xsAll ∧ ∃ a, XcK K mg c a) (h8 : ∀ c, T.rs c = true → c ∈ xsAll ∧ ∃ a, RefK P K mg c a) (hk : 2 ≤ k) : FnOk P w K mg base (L2.CX P w) (k + 1) a fd ps (spM K mg df (bodyC C n df)) := by
  refine F.ok S (fun vs H Q E hs => hs.1.trans h2.symm) fun cdv A outer s H vs Q E hr hs => ?_
  obtain ⟨hlen, P0, α0, ds, f0, hα, hm⟩ := hs
  have hx : (cxOf (L2.CX P w) P w K mg base T.N qual T.sc a cdv A outer s H E).xe = fun e s' => wpAny (model (cxOf (L2.CX P w) P w K mg base T.N qual T.sc a cdv A outer s H E).prog (cxOf (L2.CX P w) P w K mg base T.N qual T.sc a cdv A outer s H E).w) (cxOf (L2.CX P w) P w K mg base T.N qual T.sc a cdv A outer s H E).A (leaving (cxOf (L2.CX P w) P w K mg base T.N qual T.sc a cdv A outer s H E).env e) (fun _ s'' => L2.CX P w outer H s E e s'') (fun e' s'' => L2.CX P w outer H s E e' s'') s' := rfl
  have ok : OkS (cxOf (L2.CX P w) P w K mg base T.N qual T.sc a cdv A outer s H E) C defs (fun cls d _ H => E cls d H) T k :=
    ⟨⟨rfl, S.nd, rfl, fun _ _ => rfl, rfl, takes_of rfl rfl rfl hx, tb, hr, h6, h7, h8, hk⟩, passes_of hx, rfl, rfl, S.kind⟩
  have e : L2.start T.N vs = vs.map some ++ List.replicate (df.ns - df.np) none := by
    unfold L2.start
    rw [h3, hlen]
  refine ⟨_, pss_kf (sndSs (n := n) (io := df.io) (ff := df.ff) df.body _ _ T ok body h4), P0, α0, slots0 df.io 0 ds ++ List.replicate (df.ns - df.np) .un, ?_, ?_⟩
  · rw [e]
    exact f0.app (df.ns - df.np)
  · rw [e]
    exact (body_run (n := n) f0 hα hm).dk
theorem def_ok {f : String} {df : Df} (tb : Tbl P w K mg base k C defs) (h : DefOk P K mg defs f df) (hk : 2 ≤ k) : ∃ a fd ps, mg (Str.ofString f) = some (.ref a) ∧ PySem.W.keepIn K (.ref a) = true ∧ Binds K fd ps [] ∧ FnOk P w K mg base (L2.CX P w) (k + 1) a fd ps (spM K mg df (bodyC C n df)) := by
  obtain ⟨a, fd, x, qual, ps, T, params, body, h1, F, S, h2, h3, h4, h5, h6, h7, h8⟩ := h.ex
  exact ⟨a, fd, ps, h1, F.kp, h5, def_fn (f := f) tb F S h2 h3 h4 h6 h7 h8 hk⟩
/-- a program's evaluator, calls at most k deep -/
def cfg (p : Pg) (n k : Nat) : Cfg := ⟨callP p n k, p.G, p.io, p.ff⟩
/-- what is there once and for all -/
structure Base (P : Program) (K : PySem.W.Frag) (mg : Str → Option Value) (p : Pg) : Prop where
  df : ∀ f df, p.defs f = some df → DefOk P K mg p.defs f df
  bt : ∀ x ∈ btNames, mg (Str.ofString x) = none
  xc : ∀ c, c ∈ xsAll → ∀ c', c' ∈ xsAll → ∀ a a', mg (Str.ofString c) = some (.ref a) → mg (Str.ofString c') = some (.ref a') → PySem.W.exmOne K (.ref a) (.ref a') = some (c' == c)
  gl : ∀ x d, p.G x = some d → isLst d = false ∧ ∃ u v, mg (Str.ofString x) = some u ∧ RelV v u ∧ ∀ H P, KF K H → (∀ a, P a → ∃ o, H a = some o) → Rep K H P v d
theorem callP_er (p : Pg) {f : String} {df : Df} (hd : p.defs f = some df) (k : Nat) (ds : List D) : (callP p n (k + 1) f ds = bodyC (cfg p n k) n df ds) ∨ ((∃ m, bodyC (cfg p n k) n df ds = .er m) ∧ ∃ m, callP p n (k + 1) f ds = .er m) := by
  have e : callP p n (k + 1) f ds = match bodyC (cfg p n k) n df ds with
      | .er m => .er s!"{f}: {m}"
      | r => r := by
    rw [callP, hd]
    rfl
  cases h : bodyC (cfg p n k) n df ds with
  | er m => exact .inr ⟨⟨m, rfl⟩, _, by rw [e, h]⟩
  | ok d ios => exact .inl (by rw [e, h])
  | ex c d ios => exact .inl (by rw [e, h])
theorem callP_arity (p : Pg) {f : String} {df : Df} (hd : p.defs f = some df) : ∀ (k : Nat) (ds : List D), ds.length ≠ df.np → ∃ m, callP p n k f ds = .er m
  | 0, ds, _ => ⟨_, rfl⟩
  | k + 1, ds, h => by
    rcases callP_er (n := n) p hd k ds with e | ⟨_, e⟩
    · exact ⟨_, by rw [e, bodyC, if_pos h]⟩
    · exact e
theorem callP_ffio (p : Pg) {f : String} {df : Df} (hd : p.defs f = some df) (h1 : df.ff = true) (h2 : df.io ≠ []) : ∀ (k : Nat) (ds : List D), ∃ m, callP p n k f ds = .er m
  | 0, ds => ⟨_, rfl⟩
  | k + 1, ds => by
    rcases callP_er (n := n) p hd k ds with e | ⟨_, e⟩
    · by_cases h : ds.length ≠ df.np
      · exact ⟨_, by rw [e, bodyC, if_pos h]⟩
      · exact ⟨_, by
          rw [e, bodyC, if_neg h, if_pos (by
            rw [h1]
            cases q : df.io with
            | nil => exact absurd q h2
            | cons _ _ => rfl)]⟩
    · exact e
theorem callP_none (p : Pg) {f : String} (hd : p.defs f = none) : ∀ (k : Nat) (ds : List D), ∃ m, callP p n k f ds = .er m
  | 0, ds => ⟨_, rfl⟩
  | k + 1, ds => ⟨_, by rw [callP, hd]⟩
theorem tbl_all (p : Pg) (b : Base P K mg p) : ∀ k, Tbl P w K mg base (k + 2) (cfg p n k) p.defs
  | 0 => by
    refine ⟨fun f df hd => ?_, fun f ds hd => ?_, b.bt, b.xc, b.gl⟩
    · obtain ⟨a, fd, x, qual, ps, T, params, body, h1, F, S, h2, h3, h4, h5, h6, h7, h8⟩ := (b.df f df hd).ex
      refine ⟨by show p.io f = _; unfold Pg.io; rw [hd], by show p.ff f = _; unfold Pg.ff; rw [hd], fun ds h => ⟨_, rfl⟩, fun h1 h2 ds => ⟨_, rfl⟩, a, fd, ps, h1, F.kp, h5, ?_⟩
      exact ⟨fun vs H Q E hs => by
        obtain ⟨_, _, _, _, _, _, hm⟩ := hs
        exact hm.elim, fun A outer s H args us vs Q E _ _ _ _ hs => by
        obtain ⟨_, _, _, _, _, _, hm⟩ := hs
        exact hm.elim⟩
    · exact ⟨by show p.io f = _; unfold Pg.io; rw [hd], by show p.ff f = _; unfold Pg.ff; rw [hd], _, rfl⟩
  | k + 1 => by
    have tb := tbl_all p b k
    refine ⟨fun f df hd => ?_, fun f ds hd => ?_, b.bt, b.xc, b.gl⟩
    · obtain ⟨a, fd, ps, h1, h2, h3, F⟩ := def_ok (n := n) tb (b.df f df hd) (by omega)
      refine ⟨by show p.io f = _; unfold Pg.io; rw [hd], by show p.ff f = _; unfold Pg.ff; rw [hd], fun ds h => callP_arity p hd (k + 1) ds h, fun h1 h2 ds => callP_ffio p hd h1 h2 (k + 1) ds, a, fd, ps, h1, h2, h3, ?_⟩
      refine F.imp fun vs H Q E hs => ?_
      obtain ⟨hl, P0, α0, ds, f0, hα, hm⟩ := hs
      refine ⟨hl, P0, α0, ds, f0, hα, ?_⟩
      have hm : match callP p n (k + 1) f ds with
        | .ok d ios => ∀ u H', Kp α0 H H' → IoP K P0 α0 H' df.io ios → ResF K P0 α0 df.ff H H' u d → Q u H'
        | .ex c d ios => ∀ cls dd H', Kp α0 H H' → IoP K P0 α0 H' df.io ios → ExR mg c d cls dd H' → E cls dd H'
        | .er _ => False := hm
      rcases callP_er (n := n) p hd k ds with e | ⟨_, m, e⟩
      · rw [e] at hm
        exact hm
      · rw [e] at hm
        exact hm.elim
    · obtain ⟨m, e⟩ := callP_none (n := n) p hd (k + 1) ds
      exact ⟨by show p.io f = _; unfold Pg.io; rw [hd], by show p.ff f = _; unfold Pg.ff; rw [hd], m, e⟩
end
end JK

end
section
set_option Elab.async false
set_option linter.all false
set_option autoImplicit false
set_option maxRecDepth 100000
set_option maxHeartbeats 2000000
/-! JkEnd: a law's head. -/
namespace JK
open PySem PySem.Spec L2
/-- no list stands in the module's own part -/
def NoLst (K : PySem.W.Frag) : Prop := ∀ a o, K.lookup a = some o → o.cls ≠ .type "list"
def noLstB (K : PySem.W.Frag) : Bool := K.all fun p => !(p.2.cls == .type "list")
theorem mem_lk : ∀ {K : PySem.W.Frag} {a : Addr} {o : Obj}, K.lookup a = some o → (a, o) ∈ K
  | [], a, o, h => by cases h
  | (b, u) :: r, a, o, h => by
    rw [List.lookup_cons] at h
    split at h
    · rename_i e
      cases h
      rw [eq_of_beq e]
      exact List.mem_cons_self ..
    · exact List.mem_cons_of_mem _ (mem_lk h)
theorem noLst_of {K : PySem.W.Frag} (h : noLstB K = true) : NoLst K := fun a o e c => by
  have := List.all_eq_true.mp h (a, o) (mem_lk e)
  rw [show ((a, o) : Addr × Obj).2.cls = .type "list" from c] at this
  exact absurd this (by decide)
abbrev AlJ : Type := He.AlD × Bool × Bool
/-- the part of the heap that is looked at -/
def asJ (g : Addr → Option Obj) (n : Nat) : List Addr := PySem.cStatics :: He.asD g n
def refsB (K : PySem.W.Frag) (file : Str) (rf : List String) : Bool := rf.all fun c => refB K file c
/-- the module's names of tuples of texts -/
def tupsB (K : PySem.W.Frag) (ts : List (String × List String)) : Bool := ts.all fun p => (He.Fa.glo p.1).ok K && He.tupB K p.1 (p.2.map fun s : String => He.Dv.str s)
def obsJ (n : Nat) (fa : List He.Fa) (fn : List He.DefD) (file : Str) (rf : List String) (ts : List (String × List String)) (g : Addr → Option Obj) : AlJ := (He.obsD fa fn (He.frG g (asJ g n)), noLstB (He.frG g (asJ g n)), refsB (He.frG g (asJ g n)) file rf && tupsB (He.frG g (asJ g n)) ts)
def hookJ (n : Nat) (fa : List He.Fa) (fn : List He.DefD) (file : Str) (rf : List String) (ts : List (String × List String)) : PySem.W.Hook where
  α := AlJ
  obs := fun s => obsJ n fa fn file rf ts s.heap.get?
  val := fun _ => (He.valD fn, true, true)
  says := fun _ h => ∃ K : PySem.W.Frag, K.In h ∧ He.SaysD fa fn K ∧ NoLst K ∧ (refsB K file rf && tupsB K ts) = true
  of := fun _ _ e => ⟨_, He.frG_in, congrArg (fun z : AlJ => z.1) e, noLst_of (congrArg (fun z : AlJ => z.2.1) e), congrArg (fun z : AlJ => z.2.2) e⟩
  keeps := fun _ _ _ ⟨K, hK, c, q⟩ k => ⟨K, PySem.W.Frag.In.keeps hK k, c, q⟩
theorem obsJ_eq {n : Nat} {fa : List He.Fa} {fn : List He.DefD} {file : Str} {rf : List String} {ts : List (String × List String)} {g : Addr → Option Obj} {s : Shared} (h : ∀ a, g a = s.heap.get? a) : obsJ n fa fn file rf ts g = (hookJ n fa fn file rf ts).obs s := by
  have e : g = s.heap.get? := funext h
  rw [e] <;> rfl
theorem repL_strs {K : PySem.W.Frag} {H : Hp} {P : Addr → Prop} : ∀ vs : List String, RepL K H P ((vs.map fun s : String => He.Dv.str s).map (He.Dv.v K)) (vs.map fun s : String => PyData.str (Str.ofString s))
  | [] => .nil
  | s :: r => .cons (.str _) (repL_strs r)
theorem tup_glo {K : PySem.W.Frag} {mg : Str → Option Value} {h : Heap} (X : K.In h) (G : h.Ns mainGlobals mg) {ts : List (String × List String)} (tt : tupsB K ts = true) {x : String} {vs : List String} (hm : (x, vs) ∈ ts) : isLst (.tuple (vs.map fun s : String => PyData.str (Str.ofString s))) = false ∧ ∃ u v, mg (Str.ofString x) = some u ∧ RelV v u ∧ ∀ H P, KF K H → (∀ a, P a → ∃ o, H a = some o) → Rep K H P v (.tuple (vs.map fun s : String => PyData.str (Str.ofString s))) := by
  obtain ⟨h1, h2⟩ := dec2 (List.all_eq_true.mp tt (x, vs) hm)
  have g := He.glo_ok X G h1
  refine ⟨rfl, _, .ref (He.ga K (Str.ofString x)), g, rfl, fun H P kf hP => ?_⟩
  have hs := He.tupB_ok h2 H
  refine .tup hs (fun hp => ?_) (repL_strs vs)
  obtain ⟨o, ho⟩ := hP _ hp
  cases q : K.lookup (He.ga K (Str.ofString x)) with
  | none =>
    unfold He.tupB at h2
    rw [q] at h2
    cases h2
  | some u =>
    rw [kf.free _ _ q] at ho
    cases ho
def spLaw (K : PySem.W.Frag) : Sp := fun vs H Q _ => ∃ (a : Addr) (ns : List Int), vs = [.ref a] ∧ ns.length ≤ 63 ∧ SqL K H a (ns.map V.int) ∧ ∀ H', Q (.bl true) H'
section
variable {P : Program} {w : World} {K : PySem.W.Frag} {mg : Str → Option Value} {base : Heap} {k n : Nat}
theorem law_fn {p : Pg} {df : Df} {a : Addr} {fd : FuncData} {x qual : Str} {ps : List Str} {T : Sc} {params : Arguments} {body : List Stmt} (b : Base P K mg p) (nl : NoLst K) (F : FunD K x qual params body T.sc [] [] a fd) (S : FnScope T.N ps T.sc) (h2 : ps.length = df.np) (h3 : T.N.length = df.ns)
    (h4 : chkSs T df.ff df.body body = true) (h6 : ∀ g, T.df g = true → ∃ d, p.defs g = some d) (h7 : ∀ c, T.xs c = true → c ∈ xsAll ∧ ∃ a, XcK K mg c a) (h8 : ∀ c, T.rs c = true → c ∈ xsAll ∧ ∃ a, RefK P K mg c a) (hnp : df.np = 1) (hio : df.io = []) (hff : df.ff = false)
    (hlaw : ∀ ns : List Int, ns.length ≤ 63 → ∃ ios, bodyC (cfg p n k) n df [.list (ns.map .int)] = .ok (.bool true) ios) : FnOk P w K mg base (L2.CX P w) (k + 2 + 1) a fd ps (spLaw K) := by
  refine FnOk.imp (sp := spM K mg df (bodyC (cfg p n k) n df)) (def_fn (n := n) (f := "law") (tbl_all (n := n) p b k) F S h2 h3 h4 h6 h7 h8 (by omega)) fun vs H Q E hs => ?_
  obtain ⟨a, ns, rfl, hl, hS, hQ⟩ := hs
  have hR : Rd H a (.lst (ns.map V.int)) := by
    rcases hS with h | ⟨o, _, _, e, c, _⟩
    · exact h
    · exact absurd c (nl a o e)
  refine ⟨hnp.symm, fun _ => False, fun _ => none, [.list (ns.map .int)], ?_, fun i a e => (by cases e), ?_⟩
  · rw [hio]
    refine ⟨rfl, fun i d e => ?_, fun i d e => ?_, fun i a e => (by cases e), fun i j a e => (by cases e), fun a h => h.elim⟩
    · rw [slots0_get] at e
      obtain ⟨d', e1, e2⟩ := Option.map_eq_some_iff.mp e
      have e2 : Sl.sh d' = Sl.sh d := e2
      cases e2
      cases i with
      | zero =>
        cases e1
        exact ⟨_, rfl, .lst hR (fun q => by
          rcases q with q | ⟨_, q⟩
          · exact q
          · cases q) (repL_ints ns)⟩
      | succ i => simp at e1
    · rw [slots0_get] at e
      obtain ⟨d', e1, e2⟩ := Option.map_eq_some_iff.mp e
      cases e2
  · obtain ⟨ios, e⟩ := hlaw ns hl
    rw [e]
    intro u H' _ _ r
    unfold ResF at r
    rw [hff] at r
    cases r
    exact hQ H'
end
end JK

end
section
set_option Elab.async false
set_option linter.all false
set_option maxRecDepth 100000
set_option maxHeartbeats 0
namespace K81
open PySem PySem.Spec L2 JK
def top (i : Nat) : Stmt := PySem.Challenge.pw_joinkinds_k81_whole_points_alone_and_tog.main.body.getD i (.Pass ⟨0, 0, 0, 0⟩)
def d_is_whole : He.DefD := ⟨("is_whole", none), "is_whole", "is_whole", defArgs (top 4), defBody (top 4), defScope (top 4), [], []⟩
def d_has : He.DefD := ⟨("has", none), "has", "has", defArgs (top 8), defBody (top 8), defScope (top 8), [], []⟩
def d_is_within : He.DefD := ⟨("is_within", none), "is_within", "is_within", defArgs (top 9), defBody (top 9), defScope (top 9), [], []⟩
def d_points_in : He.DefD := ⟨("points_in", none), "points_in", "points_in", defArgs (top 10), defBody (top 10), defScope (top 10), [], []⟩
def d_size_of : He.DefD := ⟨("size_of", none), "size_of", "size_of", defArgs (top 11), defBody (top 11), defScope (top 11), [], []⟩
def d_set_of : He.DefD := ⟨("set_of", none), "set_of", "set_of", defArgs (top 12), defBody (top 12), defScope (top 12), [], []⟩
def d_is_set : He.DefD := ⟨("is_set", none), "is_set", "is_set", defArgs (top 13), defBody (top 13), defScope (top 13), [], []⟩
def d_is_family : He.DefD := ⟨("is_family", none), "is_family", "is_family", defArgs (top 14), defBody (top 14), defScope (top 14), [], []⟩
def d_check_family : He.DefD := ⟨("check_family", none), "check_family", "check_family", defArgs (top 15), defBody (top 15), defScope (top 15), [], []⟩
def d_union_of : He.DefD := ⟨("union_of", none), "union_of", "union_of", defArgs (top 16), defBody (top 16), defScope (top 16), [], []⟩
def d_stand_together : He.DefD := ⟨("stand_together", none), "stand_together", "stand_together", defArgs (top 17), defBody (top 17), defScope (top 17), [], []⟩
def d_check_way : He.DefD := ⟨("check_way", none), "check_way", "check_way", defArgs (top 21), defBody (top 21), defScope (top 21), [], []⟩
def d_points_tuple : He.DefD := ⟨("points_tuple", none), "points_tuple", "points_tuple", defArgs (top 22), defBody (top 22), defScope (top 22), [], []⟩
def d_spoils : He.DefD := ⟨("spoils", none), "spoils", "spoils", defArgs (top 23), defBody (top 23), defScope (top 23), [], []⟩
def d_check_many : He.DefD := ⟨("check_many", none), "check_many", "check_many", defArgs (top 24), defBody (top 24), defScope (top 24), [], []⟩
def d_partings : He.DefD := ⟨("partings", none), "partings", "partings", defArgs (top 25), defBody (top 25), defScope (top 25), [], []⟩
def d_class_counts : He.DefD := ⟨("class_counts", none), "class_counts", "class_counts", defArgs (top 26), defBody (top 26), defScope (top 26), [], []⟩
def d_falling : He.DefD := ⟨("falling", none), "falling", "falling", defArgs (top 27), defBody (top 27), defScope (top 27), [], []⟩
def d_count : He.DefD := ⟨("count", none), "count", "count", defArgs (top 28), defBody (top 28), defScope (top 28), [], []⟩
def d_fewest : He.DefD := ⟨("fewest", none), "fewest", "fewest", defArgs (top 29), defBody (top 29), defScope (top 29), [], []⟩
def d_greatest_alone : He.DefD := ⟨("greatest_alone", none), "greatest_alone", "greatest_alone", defArgs (top 30), defBody (top 30), defScope (top 30), [], []⟩
def d_greatest_lot : He.DefD := ⟨("greatest_lot", none), "greatest_lot", "greatest_lot", defArgs (top 31), defBody (top 31), defScope (top 31), [], []⟩
def d_kernel_counts : He.DefD := ⟨("kernel_counts", none), "kernel_counts", "kernel_counts", defArgs (top 32), defBody (top 32), defScope (top 32), [], []⟩
def d__law_draw : He.DefD := ⟨("_law_draw", none), "_law_draw", "_law_draw", defArgs (top 34), defBody (top 34), defScope (top 34), [], []⟩
def d__law_take : He.DefD := ⟨("_law_take", none), "_law_take", "_law_take", defArgs (top 35), defBody (top 35), defScope (top 35), [], []⟩
def d__law_order : He.DefD := ⟨("_law_order", none), "_law_order", "_law_order", defArgs (top 36), defBody (top 36), defScope (top 36), [], []⟩
def d__law_in : He.DefD := ⟨("_law_in", none), "_law_in", "_law_in", defArgs (top 37), defBody (top 37), defScope (top 37), [], []⟩
def d__law_items : He.DefD := ⟨("_law_items", none), "_law_items", "_law_items", defArgs (top 38), defBody (top 38), defScope (top 38), [], []⟩
def d__law_family : He.DefD := ⟨("_law_family", none), "_law_family", "_law_family", defArgs (top 39), defBody (top 39), defScope (top 39), [], []⟩
def d__law_every : He.DefD := ⟨("_law_every", none), "_law_every", "_law_every", defArgs (top 40), defBody (top 40), defScope (top 40), [], []⟩
def d__law_near : He.DefD := ⟨("_law_near", none), "_law_near", "_law_near", defArgs (top 41), defBody (top 41), defScope (top 41), [], []⟩
def d__law_odd : He.DefD := ⟨("_law_odd", none), "_law_odd", "_law_odd", defArgs (top 42), defBody (top 42), defScope (top 42), [], []⟩
def d__law_sets : He.DefD := ⟨("_law_sets", none), "_law_sets", "_law_sets", defArgs (top 43), defBody (top 43), defScope (top 43), [], []⟩
def d__law_together : He.DefD := ⟨("_law_together", none), "_law_together", "_law_together", defArgs (top 44), defBody (top 44), defScope (top 44), [], []⟩
def d__law_alone : He.DefD := ⟨("_law_alone", none), "_law_alone", "_law_alone", defArgs (top 45), defBody (top 45), defScope (top 45), [], []⟩
def d__law_falls : He.DefD := ⟨("_law_falls", none), "_law_falls", "_law_falls", defArgs (top 46), defBody (top 46), defScope (top 46), [], []⟩
def d__law_best : He.DefD := ⟨("_law_best", none), "_law_best", "_law_best", defArgs (top 47), defBody (top 47), defScope (top 47), [], []⟩
def d_law : He.DefD := ⟨("law", none), "law", "law", defArgs (top 48), defBody (top 48), defScope (top 48), [], []⟩
def fn : List He.DefD := [d_is_whole, d_has, d_is_within, d_points_in, d_size_of, d_set_of, d_is_set, d_is_family, d_check_family, d_union_of, d_stand_together, d_check_way, d_points_tuple, d_spoils, d_check_many, d_partings, d_class_counts, d_falling, d_count, d_fewest, d_greatest_alone, d_greatest_lot, d_kernel_counts, d__law_draw, d__law_take, d__law_order, d__law_in, d__law_items, d__law_family, d__law_every, d__law_near, d__law_odd, d__law_sets, d__law_together, d__law_alone, d__law_falls, d__law_best, d_law]
def fa : List He.Fa := [.free "len", .free "abs", .free "int", .free "sum", .free "any", .free "all", .free "max", .free "min", .free "sorted", .free "tuple", .free "list", .free "range", .free "enumerate", .free "zip", .free "isinstance", .free "set", .free "bool", .free "str", .int "MOST_POINTS" 6, .int "MOST_SETS" 8, .int "MOST_COLOURS" 20, .glo "Malformed", .exc "Malformed", .free "Refused", .free "NoText", .exm "Malformed" "Malformed" true, .glo "is_whole", .glo "has", .glo "is_within", .glo "points_in", .glo "size_of", .glo "set_of", .glo "is_set", .glo "is_family", .glo "check_family", .glo "union_of", .glo "stand_together", .glo "check_way", .glo "points_tuple", .glo "spoils", .glo "check_many", .glo "partings", .glo "class_counts", .glo "falling", .glo "count", .glo "fewest", .glo "greatest_alone", .glo "greatest_lot", .glo "kernel_counts", .glo "_law_draw", .glo "_law_take", .glo "_law_order", .glo "_law_in", .glo "_law_items", .glo "_law_family", .glo "_law_every", .glo "_law_near", .glo "_law_odd", .glo "_law_sets", .glo "_law_together", .glo "_law_alone", .glo "_law_falls", .glo "_law_best", .glo "law"]
abbrev R : PySem.W.OpenRow := PySem.W.OpenLaw.row PySem.Challenge.rw_joinkinds_k81_whole_points_alone_and_tog
def fileS : Str := PySem.Challenge.pw_joinkinds_k81_whole_points_alone_and_tog.main.file
def ts : List (String × List String) := [("WAYS", ["some", "all"])]
def rf : List String := []
abbrev hk : PySem.W.Hook := hookJ 6 fa fn fileS rf ts
def ob (s : PySem.W.SharedT) : AlJ := obsJ 6 fa fn fileS rf ts (HandSHeadRun.getT s)
theorem ob_eq (s : PySem.W.SharedT) : ob s = hk.obs s.abs := obsJ_eq (HandSHeadRun.getT_eq s)
def loose : List PySem.Str := [Str.ofString "Fault", Str.ofString "Malformed", Str.ofString "is_whole", Str.ofString "MOST_POINTS", Str.ofString "MOST_SETS", Str.ofString "has", Str.ofString "is_within", Str.ofString "points_in", Str.ofString "size_of", Str.ofString "set_of", Str.ofString "is_set", Str.ofString "is_family", Str.ofString "check_family", Str.ofString "union_of", Str.ofString "stand_together", Str.ofString "WAYS", Str.ofString "MOST_COLOURS", Str.ofString "check_way", Str.ofString "points_tuple", Str.ofString "spoils", Str.ofString "check_many", Str.ofString "partings", Str.ofString "class_counts", Str.ofString "falling", Str.ofString "count", Str.ofString "fewest", Str.ofString "greatest_alone", Str.ofString "greatest_lot", Str.ofString "kernel_counts", Str.ofString "_law_draw", Str.ofString "_law_take", Str.ofString "_law_order", Str.ofString "_law_in", Str.ofString "_law_items", Str.ofString "_law_family", Str.ofString "_law_every", Str.ofString "_law_near", Str.ofString "_law_odd", Str.ofString "_law_sets", Str.ofString "_law_together", Str.ofString "_law_alone", Str.ofString "_law_falls", Str.ofString "_law_best"]
theorem run (w : World) : HandSHeadRun.RunEq R (PySem.W.view R.prog [48]) hk ob 3000 loose w := by
  intro os
  kernel_rfl
def dfB : String → Bool := fun g => ((k81_P).defs g).isSome
def xsB : String → Bool := fun c => c == "Malformed"
def rsB : String → Bool := fun c => false
def T_is_whole : Sc := ⟨k81_is_whole_N.map Str.ofString, defScope (top 4), fun _ => true, dfB, xsB, rsB⟩
def T_has : Sc := ⟨k81_has_N.map Str.ofString, defScope (top 8), fun _ => true, dfB, xsB, rsB⟩
def T_is_within : Sc := ⟨k81_is_within_N.map Str.ofString, defScope (top 9), fun _ => true, dfB, xsB, rsB⟩
def T_points_in : Sc := ⟨k81_points_in_N.map Str.ofString, defScope (top 10), fun _ => true, dfB, xsB, rsB⟩
def T_size_of : Sc := ⟨k81_size_of_N.map Str.ofString, defScope (top 11), fun _ => true, dfB, xsB, rsB⟩
def T_set_of : Sc := ⟨k81_set_of_N.map Str.ofString, defScope (top 12), fun _ => true, dfB, xsB, rsB⟩
def T_is_set : Sc := ⟨k81_is_set_N.map Str.ofString, defScope (top 13), fun _ => true, dfB, xsB, rsB⟩
def T_is_family : Sc := ⟨k81_is_family_N.map Str.ofString, defScope (top 14), fun _ => true, dfB, xsB, rsB⟩
def T_check_family : Sc := ⟨k81_check_family_N.map Str.ofString, defScope (top 15), fun _ => true, dfB, xsB, rsB⟩
def T_union_of : Sc := ⟨k81_union_of_N.map Str.ofString, defScope (top 16), fun _ => true, dfB, xsB, rsB⟩
def T_stand_together : Sc := ⟨k81_stand_together_N.map Str.ofString, defScope (top 17), fun _ => true, dfB, xsB, rsB⟩
def T_check_way : Sc := ⟨k81_check_way_N.map Str.ofString, defScope (top 21), fun _ => true, dfB, xsB, rsB⟩
def T_points_tuple : Sc := ⟨k81_points_tuple_N.map Str.ofString, defScope (top 22), fun _ => true, dfB, xsB, rsB⟩
def T_spoils : Sc := ⟨k81_spoils_N.map Str.ofString, defScope (top 23), fun _ => true, dfB, xsB, rsB⟩
def T_check_many : Sc := ⟨k81_check_many_N.map Str.ofString, defScope (top 24), fun _ => true, dfB, xsB, rsB⟩
def T_partings : Sc := ⟨k81_partings_N.map Str.ofString, defScope (top 25), fun _ => true, dfB, xsB, rsB⟩
def T_class_counts : Sc := ⟨k81_class_counts_N.map Str.ofString, defScope (top 26), fun _ => true, dfB, xsB, rsB⟩
def T_falling : Sc := ⟨k81_falling_N.map Str.ofString, defScope (top 27), fun _ => true, dfB, xsB, rsB⟩
def T_count : Sc := ⟨k81_count_N.map Str.ofString, defScope (top 28), fun _ => true, dfB, xsB, rsB⟩
def T_fewest : Sc := ⟨k81_fewest_N.map Str.ofString, defScope (top 29), fun _ => true, dfB, xsB, rsB⟩
def T_greatest_alone : Sc := ⟨k81_greatest_alone_N.map Str.ofString, defScope (top 30), fun _ => true, dfB, xsB, rsB⟩
def T_greatest_lot : Sc := ⟨k81_greatest_lot_N.map Str.ofString, defScope (top 31), fun _ => true, dfB, xsB, rsB⟩
def T_kernel_counts : Sc := ⟨k81_kernel_counts_N.map Str.ofString, defScope (top 32), fun _ => true, dfB, xsB, rsB⟩
def T__law_draw : Sc := ⟨k81_law_draw_N.map Str.ofString, defScope (top 34), fun _ => true, dfB, xsB, rsB⟩
def T__law_take : Sc := ⟨k81_law_take_N.map Str.ofString, defScope (top 35), fun _ => true, dfB, xsB, rsB⟩
def T__law_order : Sc := ⟨k81_law_order_N.map Str.ofString, defScope (top 36), fun _ => true, dfB, xsB, rsB⟩
def T__law_in : Sc := ⟨k81_law_in_N.map Str.ofString, defScope (top 37), fun _ => true, dfB, xsB, rsB⟩
def T__law_items : Sc := ⟨k81_law_items_N.map Str.ofString, defScope (top 38), fun _ => true, dfB, xsB, rsB⟩
def T__law_family : Sc := ⟨k81_law_family_N.map Str.ofString, defScope (top 39), fun _ => true, dfB, xsB, rsB⟩
def T__law_every : Sc := ⟨k81_law_every_N.map Str.ofString, defScope (top 40), fun _ => true, dfB, xsB, rsB⟩
def T__law_near : Sc := ⟨k81_law_near_N.map Str.ofString, defScope (top 41), fun _ => true, dfB, xsB, rsB⟩
def T__law_odd : Sc := ⟨k81_law_odd_N.map Str.ofString, defScope (top 42), fun _ => true, dfB, xsB, rsB⟩
def T__law_sets : Sc := ⟨k81_law_sets_N.map Str.ofString, defScope (top 43), fun _ => true, dfB, xsB, rsB⟩
def T__law_together : Sc := ⟨k81_law_together_N.map Str.ofString, defScope (top 44), fun _ => true, dfB, xsB, rsB⟩
def T__law_alone : Sc := ⟨k81_law_alone_N.map Str.ofString, defScope (top 45), fun _ => true, dfB, xsB, rsB⟩
def T__law_falls : Sc := ⟨k81_law_falls_N.map Str.ofString, defScope (top 46), fun _ => true, dfB, xsB, rsB⟩
def T__law_best : Sc := ⟨k81_law_best_N.map Str.ofString, defScope (top 47), fun _ => true, dfB, xsB, rsB⟩
def T_law : Sc := ⟨k81_law_N.map Str.ofString, defScope (top 48), fun _ => true, dfB, xsB, rsB⟩
end K81

end
section
set_option Elab.async false
set_option linter.all false
set_option maxRecDepth 100000
set_option maxHeartbeats 0
namespace K81
open PySem PySem.Spec L2 JK
theorem chk_is_whole : chkSs T_is_whole k81_is_whole.ff k81_is_whole.body d_is_whole.body = true := by kernel_rfl
theorem chk_has : chkSs T_has k81_has.ff k81_has.body d_has.body = true := by kernel_rfl
theorem chk_is_within : chkSs T_is_within k81_is_within.ff k81_is_within.body d_is_within.body = true := by kernel_rfl
theorem chk_points_in : chkSs T_points_in k81_points_in.ff k81_points_in.body d_points_in.body = true := by kernel_rfl
theorem chk_size_of : chkSs T_size_of k81_size_of.ff k81_size_of.body d_size_of.body = true := by kernel_rfl
theorem chk_set_of : chkSs T_set_of k81_set_of.ff k81_set_of.body d_set_of.body = true := by kernel_rfl
theorem chk_is_set : chkSs T_is_set k81_is_set.ff k81_is_set.body d_is_set.body = true := by kernel_rfl
theorem chk_is_family : chkSs T_is_family k81_is_family.ff k81_is_family.body d_is_family.body = true := by kernel_rfl
theorem chk_check_family : chkSs T_check_family k81_check_family.ff k81_check_family.body d_check_family.body = true := by kernel_rfl
theorem chk_union_of : chkSs T_union_of k81_union_of.ff k81_union_of.body d_union_of.body = true := by kernel_rfl
theorem chk_stand_together : chkSs T_stand_together k81_stand_together.ff k81_stand_together.body d_stand_together.body = true := by kernel_rfl
theorem chk_check_way : chkSs T_check_way k81_check_way.ff k81_check_way.body d_check_way.body = true := by kernel_rfl
theorem chk_points_tuple : chkSs T_points_tuple k81_points_tuple.ff k81_points_tuple.body d_points_tuple.body = true := by kernel_rfl
theorem chk_spoils : chkSs T_spoils k81_spoils.ff k81_spoils.body d_spoils.body = true := by kernel_rfl
theorem chk_check_many : chkSs T_check_many k81_check_many.ff k81_check_many.body d_check_many.body = true := by kernel_rfl
theorem chk_partings : chkSs T_partings k81_partings.ff k81_partings.body d_partings.body = true := by kernel_rfl
theorem chk_class_counts : chkSs T_class_counts k81_class_counts.ff k81_class_counts.body d_class_counts.body = true := by kernel_rfl
theorem chk_falling : chkSs T_falling k81_falling.ff k81_falling.body d_falling.body = true := by kernel_rfl
theorem chk_count : chkSs T_count k81_count.ff k81_count.body d_count.body = true := by kernel_rfl
theorem chk_fewest : chkSs T_fewest k81_fewest.ff k81_fewest.body d_fewest.body = true := by kernel_rfl
theorem chk_greatest_alone : chkSs T_greatest_alone k81_greatest_alone.ff k81_greatest_alone.body d_greatest_alone.body = true := by kernel_rfl
theorem chk_greatest_lot : chkSs T_greatest_lot k81_greatest_lot.ff k81_greatest_lot.body d_greatest_lot.body = true := by kernel_rfl
theorem chk_kernel_counts : chkSs T_kernel_counts k81_kernel_counts.ff k81_kernel_counts.body d_kernel_counts.body = true := by kernel_rfl
theorem chk__law_draw : chkSs T__law_draw k81_law_draw.ff k81_law_draw.body d__law_draw.body = true := by kernel_rfl
theorem chk__law_take : chkSs T__law_take k81_law_take.ff k81_law_take.body d__law_take.body = true := by kernel_rfl
theorem chk__law_order : chkSs T__law_order k81_law_order.ff k81_law_order.body d__law_order.body = true := by kernel_rfl
theorem chk__law_in : chkSs T__law_in k81_law_in.ff k81_law_in.body d__law_in.body = true := by kernel_rfl
theorem chk__law_items : chkSs T__law_items k81_law_items.ff k81_law_items.body d__law_items.body = true := by kernel_rfl
theorem chk__law_family : chkSs T__law_family k81_law_family.ff k81_law_family.body d__law_family.body = true := by kernel_rfl
theorem chk__law_every : chkSs T__law_every k81_law_every.ff k81_law_every.body d__law_every.body = true := by kernel_rfl
theorem chk__law_near : chkSs T__law_near k81_law_near.ff k81_law_near.body d__law_near.body = true := by kernel_rfl
theorem chk__law_odd : chkSs T__law_odd k81_law_odd.ff k81_law_odd.body d__law_odd.body = true := by kernel_rfl
theorem chk__law_sets : chkSs T__law_sets k81_law_sets.ff k81_law_sets.body d__law_sets.body = true := by kernel_rfl
theorem chk__law_together : chkSs T__law_together k81_law_together.ff k81_law_together.body d__law_together.body = true := by kernel_rfl
theorem chk__law_alone : chkSs T__law_alone k81_law_alone.ff k81_law_alone.body d__law_alone.body = true := by kernel_rfl
theorem chk__law_falls : chkSs T__law_falls k81_law_falls.ff k81_law_falls.body d__law_falls.body = true := by kernel_rfl
theorem chk__law_best : chkSs T__law_best k81_law_best.ff k81_law_best.body d__law_best.body = true := by kernel_rfl
theorem chk_law : chkSs T_law k81_law.ff k81_law.body d_law.body = true := by kernel_rfl
end K81
end
section
set_option Elab.async false
set_option linter.all false
set_option maxRecDepth 100000
set_option maxHeartbeats 0
namespace K81
open PySem PySem.Spec L2 JK
theorem hdf : ∀ g, dfB g = true → ∃ d, k81_P.defs g = some d := fun g h => Option.isSome_iff_exists.mp h
section
variable {K : PySem.W.Frag} {mg : Str → Option Value} {h : Heap}
theorem hxs (X : K.In h) (G : h.Ns mainGlobals mg) (c : He.SaysD fa fn K) : ∀ x, xsB x = true → x ∈ xsAll ∧ ∃ a, XcK K mg x a := by
  intro x hx
  have hx : x = "Malformed" := by simpa [xsB] using hx
  subst hx
  · have g := He.glo_ok X G (c.fact 21 (f := .glo "Malformed") rfl)
    have e := c.fact 22 (f := .exc "Malformed") rfl
    obtain ⟨e1, e2⟩ := dec2 e
    obtain ⟨e3, e4⟩ := dec2 e2
    obtain ⟨e5, e6⟩ := dec2 e4
    exact ⟨by decide, _, ⟨g, e3, ⟨_, _, _, _, PySem.F.excBase_ValueError, e1⟩, of_decide_eq_true e5, of_decide_eq_true e6⟩⟩
theorem hrs {P : Program} (X : K.In h) (G : h.Ns mainGlobals mg) (r : refsB K fileS rf = true) (h1 : (P.main.file == fileS) = true) (h2 : (P.main.scope.names.lookup sSuper).isSome = false) : ∀ x, rsB x = true → x ∈ xsAll ∧ ∃ a, RefK P K mg x a := by
  intro x hx
  cases hx
variable {P : Program}
theorem ok_is_whole (X : K.In h) (G : h.Ns mainGlobals mg) (c : He.SaysD fa fn K) (r : refsB K fileS rf = true) (h1 : (P.main.file == fileS) = true) (h2 : (P.main.scope.names.lookup sSuper).isSome = false) : DefOk P K mg k81_P.defs "is_whole" k81_is_whole := by
  obtain ⟨fd, F⟩ := c.def_ 0 (d := d_is_whole) rfl
  exact ⟨_, fd, _, _, [Str.ofString "value"], T_is_whole, _, _, He.glo_ok X G (c.fact 26 (f := .glo "is_whole") rfl), F, C8.fnScope_by (by kernel_rfl), rfl, rfl, chk_is_whole, FunD.bindsN F (fun _ _ _ _ _ _ us hl => match us, hl with | [_], _ => rfl), hdf, hxs X G c, hrs X G r h1 h2⟩
theorem ok_has (X : K.In h) (G : h.Ns mainGlobals mg) (c : He.SaysD fa fn K) (r : refsB K fileS rf = true) (h1 : (P.main.file == fileS) = true) (h2 : (P.main.scope.names.lookup sSuper).isSome = false) : DefOk P K mg k81_P.defs "has" k81_has := by
  obtain ⟨fd, F⟩ := c.def_ 1 (d := d_has) rfl
  exact ⟨_, fd, _, _, [Str.ofString "items", Str.ofString "point"], T_has, _, _, He.glo_ok X G (c.fact 27 (f := .glo "has") rfl), F, C8.fnScope_by (by kernel_rfl), rfl, rfl, chk_has, FunD.bindsN F (fun _ _ _ _ _ _ us hl => match us, hl with | [_, _], _ => rfl), hdf, hxs X G c, hrs X G r h1 h2⟩
theorem ok_is_within (X : K.In h) (G : h.Ns mainGlobals mg) (c : He.SaysD fa fn K) (r : refsB K fileS rf = true) (h1 : (P.main.file == fileS) = true) (h2 : (P.main.scope.names.lookup sSuper).isSome = false) : DefOk P K mg k81_P.defs "is_within" k81_is_within := by
  obtain ⟨fd, F⟩ := c.def_ 2 (d := d_is_within) rfl
  exact ⟨_, fd, _, _, [Str.ofString "one", Str.ofString "two"], T_is_within, _, _, He.glo_ok X G (c.fact 28 (f := .glo "is_within") rfl), F, C8.fnScope_by (by kernel_rfl), rfl, rfl, chk_is_within, FunD.bindsN F (fun _ _ _ _ _ _ us hl => match us, hl with | [_, _], _ => rfl), hdf, hxs X G c, hrs X G r h1 h2⟩
theorem ok_points_in (X : K.In h) (G : h.Ns mainGlobals mg) (c : He.SaysD fa fn K) (r : refsB K fileS rf = true) (h1 : (P.main.file == fileS) = true) (h2 : (P.main.scope.names.lookup sSuper).isSome = false) : DefOk P K mg k81_P.defs "points_in" k81_points_in := by
  obtain ⟨fd, F⟩ := c.def_ 3 (d := d_points_in) rfl
  exact ⟨_, fd, _, _, [Str.ofString "items"], T_points_in, _, _, He.glo_ok X G (c.fact 29 (f := .glo "points_in") rfl), F, C8.fnScope_by (by kernel_rfl), rfl, rfl, chk_points_in, FunD.bindsN F (fun _ _ _ _ _ _ us hl => match us, hl with | [_], _ => rfl), hdf, hxs X G c, hrs X G r h1 h2⟩
theorem ok_size_of (X : K.In h) (G : h.Ns mainGlobals mg) (c : He.SaysD fa fn K) (r : refsB K fileS rf = true) (h1 : (P.main.file == fileS) = true) (h2 : (P.main.scope.names.lookup sSuper).isSome = false) : DefOk P K mg k81_P.defs "size_of" k81_size_of := by
  obtain ⟨fd, F⟩ := c.def_ 4 (d := d_size_of) rfl
  exact ⟨_, fd, _, _, [Str.ofString "items"], T_size_of, _, _, He.glo_ok X G (c.fact 30 (f := .glo "size_of") rfl), F, C8.fnScope_by (by kernel_rfl), rfl, rfl, chk_size_of, FunD.bindsN F (fun _ _ _ _ _ _ us hl => match us, hl with | [_], _ => rfl), hdf, hxs X G c, hrs X G r h1 h2⟩
theorem ok_set_of (X : K.In h) (G : h.Ns mainGlobals mg) (c : He.SaysD fa fn K) (r : refsB K fileS rf = true) (h1 : (P.main.file == fileS) = true) (h2 : (P.main.scope.names.lookup sSuper).isSome = false) : DefOk P K mg k81_P.defs "set_of" k81_set_of := by
  obtain ⟨fd, F⟩ := c.def_ 5 (d := d_set_of) rfl
  exact ⟨_, fd, _, _, [Str.ofString "points"], T_set_of, _, _, He.glo_ok X G (c.fact 31 (f := .glo "set_of") rfl), F, C8.fnScope_by (by kernel_rfl), rfl, rfl, chk_set_of, FunD.bindsN F (fun _ _ _ _ _ _ us hl => match us, hl with | [_], _ => rfl), hdf, hxs X G c, hrs X G r h1 h2⟩
theorem ok_is_set (X : K.In h) (G : h.Ns mainGlobals mg) (c : He.SaysD fa fn K) (r : refsB K fileS rf = true) (h1 : (P.main.file == fileS) = true) (h2 : (P.main.scope.names.lookup sSuper).isSome = false) : DefOk P K mg k81_P.defs "is_set" k81_is_set := by
  obtain ⟨fd, F⟩ := c.def_ 6 (d := d_is_set) rfl
  exact ⟨_, fd, _, _, [Str.ofString "value"], T_is_set, _, _, He.glo_ok X G (c.fact 32 (f := .glo "is_set") rfl), F, C8.fnScope_by (by kernel_rfl), rfl, rfl, chk_is_set, FunD.bindsN F (fun _ _ _ _ _ _ us hl => match us, hl with | [_], _ => rfl), hdf, hxs X G c, hrs X G r h1 h2⟩
theorem ok_is_family (X : K.In h) (G : h.Ns mainGlobals mg) (c : He.SaysD fa fn K) (r : refsB K fileS rf = true) (h1 : (P.main.file == fileS) = true) (h2 : (P.main.scope.names.lookup sSuper).isSome = false) : DefOk P K mg k81_P.defs "is_family" k81_is_family := by
  obtain ⟨fd, F⟩ := c.def_ 7 (d := d_is_family) rfl
  exact ⟨_, fd, _, _, [Str.ofString "value"], T_is_family, _, _, He.glo_ok X G (c.fact 33 (f := .glo "is_family") rfl), F, C8.fnScope_by (by kernel_rfl), rfl, rfl, chk_is_family, FunD.bindsN F (fun _ _ _ _ _ _ us hl => match us, hl with | [_], _ => rfl), hdf, hxs X G c, hrs X G r h1 h2⟩
theorem ok_check_family (X : K.In h) (G : h.Ns mainGlobals mg) (c : He.SaysD fa fn K) (r : refsB K fileS rf = true) (h1 : (P.main.file == fileS) = true) (h2 : (P.main.scope.names.lookup sSuper).isSome = false) : DefOk P K mg k81_P.defs "check_family" k81_check_family := by
  obtain ⟨fd, F⟩ := c.def_ 8 (d := d_check_family) rfl
  exact ⟨_, fd, _, _, [Str.ofString "value"], T_check_family, _, _, He.glo_ok X G (c.fact 34 (f := .glo "check_family") rfl), F, C8.fnScope_by (by kernel_rfl), rfl, rfl, chk_check_family, FunD.bindsN F (fun _ _ _ _ _ _ us hl => match us, hl with | [_], _ => rfl), hdf, hxs X G c, hrs X G r h1 h2⟩
theorem ok_union_of (X : K.In h) (G : h.Ns mainGlobals mg) (c : He.SaysD fa fn K) (r : refsB K fileS rf = true) (h1 : (P.main.file == fileS) = true) (h2 : (P.main.scope.names.lookup sSuper).isSome = false) : DefOk P K mg k81_P.defs "union_of" k81_union_of := by
  obtain ⟨fd, F⟩ := c.def_ 9 (d := d_union_of) rfl
  exact ⟨_, fd, _, _, [Str.ofString "sets"], T_union_of, _, _, He.glo_ok X G (c.fact 35 (f := .glo "union_of") rfl), F, C8.fnScope_by (by kernel_rfl), rfl, rfl, chk_union_of, FunD.bindsN F (fun _ _ _ _ _ _ us hl => match us, hl with | [_], _ => rfl), hdf, hxs X G c, hrs X G r h1 h2⟩
theorem ok_stand_together (X : K.In h) (G : h.Ns mainGlobals mg) (c : He.SaysD fa fn K) (r : refsB K fileS rf = true) (h1 : (P.main.file == fileS) = true) (h2 : (P.main.scope.names.lookup sSuper).isSome = false) : DefOk P K mg k81_P.defs "stand_together" k81_stand_together := by
  obtain ⟨fd, F⟩ := c.def_ 10 (d := d_stand_together) rfl
  exact ⟨_, fd, _, _, [Str.ofString "family", Str.ofString "one", Str.ofString "two"], T_stand_together, _, _, He.glo_ok X G (c.fact 36 (f := .glo "stand_together") rfl), F, C8.fnScope_by (by kernel_rfl), rfl, rfl, chk_stand_together, FunD.bindsN F (fun _ _ _ _ _ _ us hl => match us, hl with | [_, _, _], _ => rfl), hdf, hxs X G c, hrs X G r h1 h2⟩
theorem ok_check_way (X : K.In h) (G : h.Ns mainGlobals mg) (c : He.SaysD fa fn K) (r : refsB K fileS rf = true) (h1 : (P.main.file == fileS) = true) (h2 : (P.main.scope.names.lookup sSuper).isSome = false) : DefOk P K mg k81_P.defs "check_way" k81_check_way := by
  obtain ⟨fd, F⟩ := c.def_ 11 (d := d_check_way) rfl
  exact ⟨_, fd, _, _, [Str.ofString "way"], T_check_way, _, _, He.glo_ok X G (c.fact 37 (f := .glo "check_way") rfl), F, C8.fnScope_by (by kernel_rfl), rfl, rfl, chk_check_way, FunD.bindsN F (fun _ _ _ _ _ _ us hl => match us, hl with | [_], _ => rfl), hdf, hxs X G c, hrs X G r h1 h2⟩
theorem ok_points_tuple (X : K.In h) (G : h.Ns mainGlobals mg) (c : He.SaysD fa fn K) (r : refsB K fileS rf = true) (h1 : (P.main.file == fileS) = true) (h2 : (P.main.scope.names.lookup sSuper).isSome = false) : DefOk P K mg k81_P.defs "points_tuple" k81_points_tuple := by
  obtain ⟨fd, F⟩ := c.def_ 12 (d := d_points_tuple) rfl
  exact ⟨_, fd, _, _, [Str.ofString "family"], T_points_tuple, _, _, He.glo_ok X G (c.fact 38 (f := .glo "points_tuple") rfl), F, C8.fnScope_by (by kernel_rfl), rfl, rfl, chk_points_tuple, FunD.bindsN F (fun _ _ _ _ _ _ us hl => match us, hl with | [_], _ => rfl), hdf, hxs X G c, hrs X G r h1 h2⟩
theorem ok_spoils (X : K.In h) (G : h.Ns mainGlobals mg) (c : He.SaysD fa fn K) (r : refsB K fileS rf = true) (h1 : (P.main.file == fileS) = true) (h2 : (P.main.scope.names.lookup sSuper).isSome = false) : DefOk P K mg k81_P.defs "spoils" k81_spoils := by
  obtain ⟨fd, F⟩ := c.def_ 13 (d := d_spoils) rfl
  exact ⟨_, fd, _, _, [Str.ofString "family", Str.ofString "way", Str.ofString "points", Str.ofString "row"], T_spoils, _, _, He.glo_ok X G (c.fact 39 (f := .glo "spoils") rfl), F, C8.fnScope_by (by kernel_rfl), rfl, rfl, chk_spoils, FunD.bindsN F (fun _ _ _ _ _ _ us hl => match us, hl with | [_, _, _, _], _ => rfl), hdf, hxs X G c, hrs X G r h1 h2⟩
theorem ok_check_many (X : K.In h) (G : h.Ns mainGlobals mg) (c : He.SaysD fa fn K) (r : refsB K fileS rf = true) (h1 : (P.main.file == fileS) = true) (h2 : (P.main.scope.names.lookup sSuper).isSome = false) : DefOk P K mg k81_P.defs "check_many" k81_check_many := by
  obtain ⟨fd, F⟩ := c.def_ 14 (d := d_check_many) rfl
  exact ⟨_, fd, _, _, [Str.ofString "value", Str.ofString "least"], T_check_many, _, _, He.glo_ok X G (c.fact 40 (f := .glo "check_many") rfl), F, C8.fnScope_by (by kernel_rfl), rfl, rfl, chk_check_many, FunD.bindsN F (fun _ _ _ _ _ _ us hl => match us, hl with | [_, _], _ => rfl), hdf, hxs X G c, hrs X G r h1 h2⟩
theorem ok_partings (X : K.In h) (G : h.Ns mainGlobals mg) (c : He.SaysD fa fn K) (r : refsB K fileS rf = true) (h1 : (P.main.file == fileS) = true) (h2 : (P.main.scope.names.lookup sSuper).isSome = false) : DefOk P K mg k81_P.defs "partings" k81_partings := by
  obtain ⟨fd, F⟩ := c.def_ 15 (d := d_partings) rfl
  exact ⟨_, fd, _, _, [Str.ofString "many"], T_partings, _, _, He.glo_ok X G (c.fact 41 (f := .glo "partings") rfl), F, C8.fnScope_by (by kernel_rfl), rfl, rfl, chk_partings, FunD.bindsN F (fun _ _ _ _ _ _ us hl => match us, hl with | [_], _ => rfl), hdf, hxs X G c, hrs X G r h1 h2⟩
theorem ok_class_counts (X : K.In h) (G : h.Ns mainGlobals mg) (c : He.SaysD fa fn K) (r : refsB K fileS rf = true) (h1 : (P.main.file == fileS) = true) (h2 : (P.main.scope.names.lookup sSuper).isSome = false) : DefOk P K mg k81_P.defs "class_counts" k81_class_counts := by
  obtain ⟨fd, F⟩ := c.def_ 16 (d := d_class_counts) rfl
  exact ⟨_, fd, _, _, [Str.ofString "family", Str.ofString "way"], T_class_counts, _, _, He.glo_ok X G (c.fact 42 (f := .glo "class_counts") rfl), F, C8.fnScope_by (by kernel_rfl), rfl, rfl, chk_class_counts, FunD.bindsN F (fun _ _ _ _ _ _ us hl => match us, hl with | [_, _], _ => rfl), hdf, hxs X G c, hrs X G r h1 h2⟩
theorem ok_falling (X : K.In h) (G : h.Ns mainGlobals mg) (c : He.SaysD fa fn K) (r : refsB K fileS rf = true) (h1 : (P.main.file == fileS) = true) (h2 : (P.main.scope.names.lookup sSuper).isSome = false) : DefOk P K mg k81_P.defs "falling" k81_falling := by
  obtain ⟨fd, F⟩ := c.def_ 17 (d := d_falling) rfl
  exact ⟨_, fd, _, _, [Str.ofString "many", Str.ofString "size"], T_falling, _, _, He.glo_ok X G (c.fact 43 (f := .glo "falling") rfl), F, C8.fnScope_by (by kernel_rfl), rfl, rfl, chk_falling, FunD.bindsN F (fun _ _ _ _ _ _ us hl => match us, hl with | [_, _], _ => rfl), hdf, hxs X G c, hrs X G r h1 h2⟩
theorem ok_count (X : K.In h) (G : h.Ns mainGlobals mg) (c : He.SaysD fa fn K) (r : refsB K fileS rf = true) (h1 : (P.main.file == fileS) = true) (h2 : (P.main.scope.names.lookup sSuper).isSome = false) : DefOk P K mg k81_P.defs "count" k81_count := by
  obtain ⟨fd, F⟩ := c.def_ 18 (d := d_count) rfl
  exact ⟨_, fd, _, _, [Str.ofString "family", Str.ofString "way", Str.ofString "many"], T_count, _, _, He.glo_ok X G (c.fact 44 (f := .glo "count") rfl), F, C8.fnScope_by (by kernel_rfl), rfl, rfl, chk_count, FunD.bindsN F (fun _ _ _ _ _ _ us hl => match us, hl with | [_, _, _], _ => rfl), hdf, hxs X G c, hrs X G r h1 h2⟩
theorem ok_fewest (X : K.In h) (G : h.Ns mainGlobals mg) (c : He.SaysD fa fn K) (r : refsB K fileS rf = true) (h1 : (P.main.file == fileS) = true) (h2 : (P.main.scope.names.lookup sSuper).isSome = false) : DefOk P K mg k81_P.defs "fewest" k81_fewest := by
  obtain ⟨fd, F⟩ := c.def_ 19 (d := d_fewest) rfl
  exact ⟨_, fd, _, _, [Str.ofString "family", Str.ofString "way"], T_fewest, _, _, He.glo_ok X G (c.fact 45 (f := .glo "fewest") rfl), F, C8.fnScope_by (by kernel_rfl), rfl, rfl, chk_fewest, FunD.bindsN F (fun _ _ _ _ _ _ us hl => match us, hl with | [_, _], _ => rfl), hdf, hxs X G c, hrs X G r h1 h2⟩
theorem ok_greatest_alone (X : K.In h) (G : h.Ns mainGlobals mg) (c : He.SaysD fa fn K) (r : refsB K fileS rf = true) (h1 : (P.main.file == fileS) = true) (h2 : (P.main.scope.names.lookup sSuper).isSome = false) : DefOk P K mg k81_P.defs "greatest_alone" k81_greatest_alone := by
  obtain ⟨fd, F⟩ := c.def_ 20 (d := d_greatest_alone) rfl
  exact ⟨_, fd, _, _, [Str.ofString "family"], T_greatest_alone, _, _, He.glo_ok X G (c.fact 46 (f := .glo "greatest_alone") rfl), F, C8.fnScope_by (by kernel_rfl), rfl, rfl, chk_greatest_alone, FunD.bindsN F (fun _ _ _ _ _ _ us hl => match us, hl with | [_], _ => rfl), hdf, hxs X G c, hrs X G r h1 h2⟩
theorem ok_greatest_lot (X : K.In h) (G : h.Ns mainGlobals mg) (c : He.SaysD fa fn K) (r : refsB K fileS rf = true) (h1 : (P.main.file == fileS) = true) (h2 : (P.main.scope.names.lookup sSuper).isSome = false) : DefOk P K mg k81_P.defs "greatest_lot" k81_greatest_lot := by
  obtain ⟨fd, F⟩ := c.def_ 21 (d := d_greatest_lot) rfl
  exact ⟨_, fd, _, _, [Str.ofString "family"], T_greatest_lot, _, _, He.glo_ok X G (c.fact 47 (f := .glo "greatest_lot") rfl), F, C8.fnScope_by (by kernel_rfl), rfl, rfl, chk_greatest_lot, FunD.bindsN F (fun _ _ _ _ _ _ us hl => match us, hl with | [_], _ => rfl), hdf, hxs X G c, hrs X G r h1 h2⟩
theorem ok_kernel_counts (X : K.In h) (G : h.Ns mainGlobals mg) (c : He.SaysD fa fn K) (r : refsB K fileS rf = true) (h1 : (P.main.file == fileS) = true) (h2 : (P.main.scope.names.lookup sSuper).isSome = false) : DefOk P K mg k81_P.defs "kernel_counts" k81_kernel_counts := by
  obtain ⟨fd, F⟩ := c.def_ 22 (d := d_kernel_counts) rfl
  exact ⟨_, fd, _, _, [Str.ofString "family"], T_kernel_counts, _, _, He.glo_ok X G (c.fact 48 (f := .glo "kernel_counts") rfl), F, C8.fnScope_by (by kernel_rfl), rfl, rfl, chk_kernel_counts, FunD.bindsN F (fun _ _ _ _ _ _ us hl => match us, hl with | [_], _ => rfl), hdf, hxs X G c, hrs X G r h1 h2⟩
theorem ok__law_draw (X : K.In h) (G : h.Ns mainGlobals mg) (c : He.SaysD fa fn K) (r : refsB K fileS rf = true) (h1 : (P.main.file == fileS) = true) (h2 : (P.main.scope.names.lookup sSuper).isSome = false) : DefOk P K mg k81_P.defs "_law_draw" k81_law_draw := by
  obtain ⟨fd, F⟩ := c.def_ 23 (d := d__law_draw) rfl
  exact ⟨_, fd, _, _, [Str.ofString "script"], T__law_draw, _, _, He.glo_ok X G (c.fact 49 (f := .glo "_law_draw") rfl), F, C8.fnScope_by (by kernel_rfl), rfl, rfl, chk__law_draw, FunD.bindsN F (fun _ _ _ _ _ _ us hl => match us, hl with | [_], _ => rfl), hdf, hxs X G c, hrs X G r h1 h2⟩
theorem ok__law_take (X : K.In h) (G : h.Ns mainGlobals mg) (c : He.SaysD fa fn K) (r : refsB K fileS rf = true) (h1 : (P.main.file == fileS) = true) (h2 : (P.main.scope.names.lookup sSuper).isSome = false) : DefOk P K mg k81_P.defs "_law_take" k81_law_take := by
  obtain ⟨fd, F⟩ := c.def_ 24 (d := d__law_take) rfl
  exact ⟨_, fd, _, _, [Str.ofString "draw", Str.ofString "many"], T__law_take, _, _, He.glo_ok X G (c.fact 50 (f := .glo "_law_take") rfl), F, C8.fnScope_by (by kernel_rfl), rfl, rfl, chk__law_take, FunD.bindsN F (fun _ _ _ _ _ _ us hl => match us, hl with | [_, _], _ => rfl), hdf, hxs X G c, hrs X G r h1 h2⟩
theorem ok__law_order (X : K.In h) (G : h.Ns mainGlobals mg) (c : He.SaysD fa fn K) (r : refsB K fileS rf = true) (h1 : (P.main.file == fileS) = true) (h2 : (P.main.scope.names.lookup sSuper).isSome = false) : DefOk P K mg k81_P.defs "_law_order" k81_law_order := by
  obtain ⟨fd, F⟩ := c.def_ 25 (d := d__law_order) rfl
  exact ⟨_, fd, _, _, [Str.ofString "draw", Str.ofString "many"], T__law_order, _, _, He.glo_ok X G (c.fact 51 (f := .glo "_law_order") rfl), F, C8.fnScope_by (by kernel_rfl), rfl, rfl, chk__law_order, FunD.bindsN F (fun _ _ _ _ _ _ us hl => match us, hl with | [_, _], _ => rfl), hdf, hxs X G c, hrs X G r h1 h2⟩
theorem ok__law_in (X : K.In h) (G : h.Ns mainGlobals mg) (c : He.SaysD fa fn K) (r : refsB K fileS rf = true) (h1 : (P.main.file == fileS) = true) (h2 : (P.main.scope.names.lookup sSuper).isSome = false) : DefOk P K mg k81_P.defs "_law_in" k81_law_in := by
  obtain ⟨fd, F⟩ := c.def_ 26 (d := d__law_in) rfl
  exact ⟨_, fd, _, _, [Str.ofString "items"], T__law_in, _, _, He.glo_ok X G (c.fact 52 (f := .glo "_law_in") rfl), F, C8.fnScope_by (by kernel_rfl), rfl, rfl, chk__law_in, FunD.bindsN F (fun _ _ _ _ _ _ us hl => match us, hl with | [_], _ => rfl), hdf, hxs X G c, hrs X G r h1 h2⟩
theorem ok__law_items (X : K.In h) (G : h.Ns mainGlobals mg) (c : He.SaysD fa fn K) (r : refsB K fileS rf = true) (h1 : (P.main.file == fileS) = true) (h2 : (P.main.scope.names.lookup sSuper).isSome = false) : DefOk P K mg k81_P.defs "_law_items" k81_law_items := by
  obtain ⟨fd, F⟩ := c.def_ 27 (d := d__law_items) rfl
  exact ⟨_, fd, _, _, [Str.ofString "draw", Str.ofString "style", Str.ofString "many", Str.ofString "found"], T__law_items, _, _, He.glo_ok X G (c.fact 53 (f := .glo "_law_items") rfl), F, C8.fnScope_by (by kernel_rfl), rfl, rfl, chk__law_items, FunD.bindsN F (fun _ _ _ _ _ _ us hl => match us, hl with | [_, _, _, _], _ => rfl), hdf, hxs X G c, hrs X G r h1 h2⟩
theorem ok__law_family (X : K.In h) (G : h.Ns mainGlobals mg) (c : He.SaysD fa fn K) (r : refsB K fileS rf = true) (h1 : (P.main.file == fileS) = true) (h2 : (P.main.scope.names.lookup sSuper).isSome = false) : DefOk P K mg k81_P.defs "_law_family" k81_law_family := by
  obtain ⟨fd, F⟩ := c.def_ 28 (d := d__law_family) rfl
  exact ⟨_, fd, _, _, [Str.ofString "draw", Str.ofString "most"], T__law_family, _, _, He.glo_ok X G (c.fact 54 (f := .glo "_law_family") rfl), F, C8.fnScope_by (by kernel_rfl), rfl, rfl, chk__law_family, FunD.bindsN F (fun _ _ _ _ _ _ us hl => match us, hl with | [_, _], _ => rfl), hdf, hxs X G c, hrs X G r h1 h2⟩
theorem ok__law_every (X : K.In h) (G : h.Ns mainGlobals mg) (c : He.SaysD fa fn K) (r : refsB K fileS rf = true) (h1 : (P.main.file == fileS) = true) (h2 : (P.main.scope.names.lookup sSuper).isSome = false) : DefOk P K mg k81_P.defs "_law_every" k81_law_every := by
  obtain ⟨fd, F⟩ := c.def_ 29 (d := d__law_every) rfl
  exact ⟨_, fd, _, _, [Str.ofString "family"], T__law_every, _, _, He.glo_ok X G (c.fact 55 (f := .glo "_law_every") rfl), F, C8.fnScope_by (by kernel_rfl), rfl, rfl, chk__law_every, FunD.bindsN F (fun _ _ _ _ _ _ us hl => match us, hl with | [_], _ => rfl), hdf, hxs X G c, hrs X G r h1 h2⟩
theorem ok__law_near (X : K.In h) (G : h.Ns mainGlobals mg) (c : He.SaysD fa fn K) (r : refsB K fileS rf = true) (h1 : (P.main.file == fileS) = true) (h2 : (P.main.scope.names.lookup sSuper).isSome = false) : DefOk P K mg k81_P.defs "_law_near" k81_law_near := by
  obtain ⟨fd, F⟩ := c.def_ 30 (d := d__law_near) rfl
  exact ⟨_, fd, _, _, [Str.ofString "family", Str.ofString "x", Str.ofString "y"], T__law_near, _, _, He.glo_ok X G (c.fact 56 (f := .glo "_law_near") rfl), F, C8.fnScope_by (by kernel_rfl), rfl, rfl, chk__law_near, FunD.bindsN F (fun _ _ _ _ _ _ us hl => match us, hl with | [_, _, _], _ => rfl), hdf, hxs X G c, hrs X G r h1 h2⟩
theorem ok__law_odd (X : K.In h) (G : h.Ns mainGlobals mg) (c : He.SaysD fa fn K) (r : refsB K fileS rf = true) (h1 : (P.main.file == fileS) = true) (h2 : (P.main.scope.names.lookup sSuper).isSome = false) : DefOk P K mg k81_P.defs "_law_odd" k81_law_odd := by
  obtain ⟨fd, F⟩ := c.def_ 31 (d := d__law_odd) rfl
  exact ⟨_, fd, _, _, [Str.ofString "draw"], T__law_odd, _, _, He.glo_ok X G (c.fact 57 (f := .glo "_law_odd") rfl), F, C8.fnScope_by (by kernel_rfl), rfl, rfl, chk__law_odd, FunD.bindsN F (fun _ _ _ _ _ _ us hl => match us, hl with | [_], _ => rfl), hdf, hxs X G c, hrs X G r h1 h2⟩
theorem ok__law_sets (X : K.In h) (G : h.Ns mainGlobals mg) (c : He.SaysD fa fn K) (r : refsB K fileS rf = true) (h1 : (P.main.file == fileS) = true) (h2 : (P.main.scope.names.lookup sSuper).isSome = false) : DefOk P K mg k81_P.defs "_law_sets" k81_law_sets := by
  obtain ⟨fd, F⟩ := c.def_ 32 (d := d__law_sets) rfl
  exact ⟨_, fd, _, _, [Str.ofString "points"], T__law_sets, _, _, He.glo_ok X G (c.fact 58 (f := .glo "_law_sets") rfl), F, C8.fnScope_by (by kernel_rfl), rfl, rfl, chk__law_sets, FunD.bindsN F (fun _ _ _ _ _ _ us hl => match us, hl with | [_], _ => rfl), hdf, hxs X G c, hrs X G r h1 h2⟩
theorem ok__law_together (X : K.In h) (G : h.Ns mainGlobals mg) (c : He.SaysD fa fn K) (r : refsB K fileS rf = true) (h1 : (P.main.file == fileS) = true) (h2 : (P.main.scope.names.lookup sSuper).isSome = false) : DefOk P K mg k81_P.defs "_law_together" k81_law_together := by
  obtain ⟨fd, F⟩ := c.def_ 33 (d := d__law_together) rfl
  exact ⟨_, fd, _, _, [Str.ofString "family", Str.ofString "row"], T__law_together, _, _, He.glo_ok X G (c.fact 59 (f := .glo "_law_together") rfl), F, C8.fnScope_by (by kernel_rfl), rfl, rfl, chk__law_together, FunD.bindsN F (fun _ _ _ _ _ _ us hl => match us, hl with | [_, _], _ => rfl), hdf, hxs X G c, hrs X G r h1 h2⟩
theorem ok__law_alone (X : K.In h) (G : h.Ns mainGlobals mg) (c : He.SaysD fa fn K) (r : refsB K fileS rf = true) (h1 : (P.main.file == fileS) = true) (h2 : (P.main.scope.names.lookup sSuper).isSome = false) : DefOk P K mg k81_P.defs "_law_alone" k81_law_alone := by
  obtain ⟨fd, F⟩ := c.def_ 34 (d := d__law_alone) rfl
  exact ⟨_, fd, _, _, [Str.ofString "family", Str.ofString "row"], T__law_alone, _, _, He.glo_ok X G (c.fact 60 (f := .glo "_law_alone") rfl), F, C8.fnScope_by (by kernel_rfl), rfl, rfl, chk__law_alone, FunD.bindsN F (fun _ _ _ _ _ _ us hl => match us, hl with | [_, _], _ => rfl), hdf, hxs X G c, hrs X G r h1 h2⟩
theorem ok__law_falls (X : K.In h) (G : h.Ns mainGlobals mg) (c : He.SaysD fa fn K) (r : refsB K fileS rf = true) (h1 : (P.main.file == fileS) = true) (h2 : (P.main.scope.names.lookup sSuper).isSome = false) : DefOk P K mg k81_P.defs "_law_falls" k81_law_falls := by
  obtain ⟨fd, F⟩ := c.def_ 35 (d := d__law_falls) rfl
  exact ⟨_, fd, _, _, [Str.ofString "which", Str.ofString "family"], T__law_falls, _, _, He.glo_ok X G (c.fact 61 (f := .glo "_law_falls") rfl), F, C8.fnScope_by (by kernel_rfl), rfl, rfl, chk__law_falls, FunD.bindsN F (fun _ _ _ _ _ _ us hl => match us, hl with | [_, _], _ => rfl), hdf, hxs X G c, hrs X G r h1 h2⟩
theorem ok__law_best (X : K.In h) (G : h.Ns mainGlobals mg) (c : He.SaysD fa fn K) (r : refsB K fileS rf = true) (h1 : (P.main.file == fileS) = true) (h2 : (P.main.scope.names.lookup sSuper).isSome = false) : DefOk P K mg k81_P.defs "_law_best" k81_law_best := by
  obtain ⟨fd, F⟩ := c.def_ 36 (d := d__law_best) rfl
  exact ⟨_, fd, _, _, [Str.ofString "told", Str.ofString "rows"], T__law_best, _, _, He.glo_ok X G (c.fact 62 (f := .glo "_law_best") rfl), F, C8.fnScope_by (by kernel_rfl), rfl, rfl, chk__law_best, FunD.bindsN F (fun _ _ _ _ _ _ us hl => match us, hl with | [_, _], _ => rfl), hdf, hxs X G c, hrs X G r h1 h2⟩
theorem ok_law (X : K.In h) (G : h.Ns mainGlobals mg) (c : He.SaysD fa fn K) (r : refsB K fileS rf = true) (h1 : (P.main.file == fileS) = true) (h2 : (P.main.scope.names.lookup sSuper).isSome = false) : DefOk P K mg k81_P.defs "law" k81_law := by
  obtain ⟨fd, F⟩ := c.def_ 37 (d := d_law) rfl
  exact ⟨_, fd, _, _, [Str.ofString "script"], T_law, _, _, He.glo_ok X G (c.fact 63 (f := .glo "law") rfl), F, C8.fnScope_by (by kernel_rfl), rfl, rfl, chk_law, FunD.bindsN F (fun _ _ _ _ _ _ us hl => match us, hl with | [_], _ => rfl), hdf, hxs X G c, hrs X G r h1 h2⟩
theorem base (X : K.In h) (G : h.Ns mainGlobals mg) (c : He.SaysD fa fn K) (tt : tupsB K ts = true) (r : refsB K fileS rf = true) (h1 : (P.main.file == fileS) = true) (h2 : (P.main.scope.names.lookup sSuper).isSome = false) : Base P K mg k81_P := by
  refine ⟨fun f df e => ?_, fun x hx => ?_, ?_, fun x d e => ?_⟩
  · have e : k81_P.defs f = some df := e
    unfold k81_P at e
    dsimp only at e
    split at e
    · cases e; exact ok_is_whole X G c r h1 h2
    · cases e; exact ok_has X G c r h1 h2
    · cases e; exact ok_is_within X G c r h1 h2
    · cases e; exact ok_points_in X G c r h1 h2
    · cases e; exact ok_size_of X G c r h1 h2
    · cases e; exact ok_set_of X G c r h1 h2
    · cases e; exact ok_is_set X G c r h1 h2
    · cases e; exact ok_is_family X G c r h1 h2
    · cases e; exact ok_check_family X G c r h1 h2
    · cases e; exact ok_union_of X G c r h1 h2
    · cases e; exact ok_stand_together X G c r h1 h2
    · cases e; exact ok_check_way X G c r h1 h2
    · cases e; exact ok_points_tuple X G c r h1 h2
    · cases e; exact ok_spoils X G c r h1 h2
    · cases e; exact ok_check_many X G c r h1 h2
    · cases e; exact ok_partings X G c r h1 h2
    · cases e; exact ok_class_counts X G c r h1 h2
    · cases e; exact ok_falling X G c r h1 h2
    · cases e; exact ok_count X G c r h1 h2
    · cases e; exact ok_fewest X G c r h1 h2
    · cases e; exact ok_greatest_alone X G c r h1 h2
    · cases e; exact ok_greatest_lot X G c r h1 h2
    · cases e; exact ok_kernel_counts X G c r h1 h2
    · cases e; exact ok__law_draw X G c r h1 h2
    · cases e; exact ok__law_take X G c r h1 h2
    · cases e; exact ok__law_order X G c r h1 h2
    · cases e; exact ok__law_in X G c r h1 h2
    · cases e; exact ok__law_items X G c r h1 h2
    · cases e; exact ok__law_family X G c r h1 h2
    · cases e; exact ok__law_every X G c r h1 h2
    · cases e; exact ok__law_near X G c r h1 h2
    · cases e; exact ok__law_odd X G c r h1 h2
    · cases e; exact ok__law_sets X G c r h1 h2
    · cases e; exact ok__law_together X G c r h1 h2
    · cases e; exact ok__law_alone X G c r h1 h2
    · cases e; exact ok__law_falls X G c r h1 h2
    · cases e; exact ok__law_best X G c r h1 h2
    · cases e; exact ok_law X G c r h1 h2
    · cases e
  · simp only [btNames, List.mem_cons, List.not_mem_nil, or_false] at hx
    rcases hx with rfl | rfl | rfl | rfl | rfl | rfl | rfl | rfl | rfl | rfl | rfl | rfl | rfl | rfl | rfl | rfl | rfl | rfl
    · exact He.free_ok X G (c.fact 0 (f := .free "len") rfl)
    · exact He.free_ok X G (c.fact 1 (f := .free "abs") rfl)
    · exact He.free_ok X G (c.fact 2 (f := .free "int") rfl)
    · exact He.free_ok X G (c.fact 3 (f := .free "sum") rfl)
    · exact He.free_ok X G (c.fact 4 (f := .free "any") rfl)
    · exact He.free_ok X G (c.fact 5 (f := .free "all") rfl)
    · exact He.free_ok X G (c.fact 6 (f := .free "max") rfl)
    · exact He.free_ok X G (c.fact 7 (f := .free "min") rfl)
    · exact He.free_ok X G (c.fact 8 (f := .free "sorted") rfl)
    · exact He.free_ok X G (c.fact 9 (f := .free "tuple") rfl)
    · exact He.free_ok X G (c.fact 10 (f := .free "list") rfl)
    · exact He.free_ok X G (c.fact 11 (f := .free "range") rfl)
    · exact He.free_ok X G (c.fact 12 (f := .free "enumerate") rfl)
    · exact He.free_ok X G (c.fact 13 (f := .free "zip") rfl)
    · exact He.free_ok X G (c.fact 14 (f := .free "isinstance") rfl)
    · exact He.free_ok X G (c.fact 15 (f := .free "set") rfl)
    · exact He.free_ok X G (c.fact 16 (f := .free "bool") rfl)
    · exact He.free_ok X G (c.fact 17 (f := .free "str") rfl)
  · intro c1 h1 c2 h2 a a' e1 e2
    simp only [xsAll, List.mem_cons, List.not_mem_nil, or_false] at h1 h2
    rcases h1 with rfl | rfl | rfl <;> rcases h2 with rfl | rfl | rfl
    · have g1 := He.glo_ok X G (c.fact 21 (f := .glo "Malformed") rfl)
      have g2 := He.glo_ok X G (c.fact 21 (f := .glo "Malformed") rfl)
      cases g1.symm.trans e1
      cases g2.symm.trans e2
      have z := c.fact 25 (f := .exm "Malformed" "Malformed" true) rfl
      exact of_decide_eq_true z
    · exact absurd ((He.free_ok X G (c.fact 23 (f := .free "Refused") rfl)).symm.trans e2) (by simp)
    · exact absurd ((He.free_ok X G (c.fact 24 (f := .free "NoText") rfl)).symm.trans e2) (by simp)
    · exact absurd ((He.free_ok X G (c.fact 23 (f := .free "Refused") rfl)).symm.trans e1) (by simp)
    · exact absurd ((He.free_ok X G (c.fact 23 (f := .free "Refused") rfl)).symm.trans e1) (by simp)
    · exact absurd ((He.free_ok X G (c.fact 23 (f := .free "Refused") rfl)).symm.trans e1) (by simp)
    · exact absurd ((He.free_ok X G (c.fact 24 (f := .free "NoText") rfl)).symm.trans e1) (by simp)
    · exact absurd ((He.free_ok X G (c.fact 24 (f := .free "NoText") rfl)).symm.trans e1) (by simp)
    · exact absurd ((He.free_ok X G (c.fact 24 (f := .free "NoText") rfl)).symm.trans e1) (by simp)
  · have e : k81_G x = some d := e
    unfold k81_G at e
    split at e
    · cases e
      obtain ⟨tk, z⟩ := He.int_ok X G (c.fact 18 (f := .int "MOST_POINTS" 6) rfl)
      exact ⟨rfl, _, .int 6, z, ⟨tk, rfl⟩, fun _ _ _ _ => .int _⟩
    · cases e
      obtain ⟨tk, z⟩ := He.int_ok X G (c.fact 19 (f := .int "MOST_SETS" 8) rfl)
      exact ⟨rfl, _, .int 8, z, ⟨tk, rfl⟩, fun _ _ _ _ => .int _⟩
    · cases e
      exact tup_glo X G tt (x := "WAYS") (vs := ["some", "all"]) (by decide)
    · cases e
      obtain ⟨tk, z⟩ := He.int_ok X G (c.fact 20 (f := .int "MOST_COLOURS" 20) rfl)
      exact ⟨rfl, _, .int 20, z, ⟨tk, rfl⟩, fun _ _ _ _ => .int _⟩
    · cases e
end
/-- what is left: the evaluator's word -/
def Left (kk n : Nat) : Prop := ∀ ns : List Int, ns.length ≤ 63 → ∃ ios, bodyC (cfg k81_P n kk) n k81_law [.list (ns.map .int)] = .ok (.bool true) ios
theorem facts {P : Program} {w : World} {K : PySem.W.Frag} {h : Heap} {mg : Str → Option Value} {f : Addr} {kk n : Nat} (left : Left kk n) (X : K.In h) (G : h.Ns mainGlobals mg) (hfa : mg (Str.ofString "law") = some (.ref f)) (c : He.SaysD fa fn K) (nl : NoLst K) (tt : tupsB K ts = true) (r : refsB K fileS rf = true) (h1 : (P.main.file == fileS) = true) (h2 : (P.main.scope.names.lookup sSuper).isSome = false) :
    ∃ fd : FuncData, (∀ (s : Shared) (v : Value), BindsTo s fd ⟨[v], []⟩ [(Str.ofString "script", v)]) ∧ ∀ base : Heap, K.In base → base.Ns mainGlobals mg → FnOk P w K mg base (L2.CX P w) (kk + 2 + 1) f fd [Str.ofString "script"] (spLaw K) := by
  obtain ⟨fd, F⟩ := c.def_ 37 (d := d_law) rfl
  cases hfa.symm.trans (He.glo_ok X G (c.fact 63 (f := .glo "law") rfl))
  have b := FunD.bindsA (ps := [Str.ofString "script"]) F fun _ _ _ _ _ _ us hl => match us, hl with | [_], _ => rfl
  exact ⟨fd, fun s v => b s [v] rfl, fun bs _ _ => law_fn (T := T_law) (base X G c tt r h1 h2) nl F (C8.fnScope_by (by kernel_rfl)) rfl rfl chk_law hdf (hxs X G c) (hrs X G r h1 h2) rfl rfl rfl left⟩
end K81
open PySem PySem.W PySem.Calls PyProof.Rows
theorem k81_of {kk n : Nat} (left : K81.Left kk n) (hr : L2.Room (kk + 2 + 1) callerA) : PySem.Challenge.rw_joinkinds_k81_whole_points_alone_and_tog.Holds := by
  w_on; o_law
  refine HandSHeadRun.head_any (r := OpenLaw.row PySem.Challenge.rw_joinkinds_k81_whole_points_alone_and_tog) (q := view (OpenLaw.row PySem.Challenge.rw_joinkinds_k81_whole_points_alone_and_tog).prog [48]) (H := K81.hk) (ob := K81.ob) (M := 3000) (loose := K81.loose) (d := HandSHeadRun.topDef (OpenLaw.row PySem.Challenge.rw_joinkinds_k81_whole_points_alone_and_tog).prog 48) (kwd := []) K81.ob_eq
    (by kernel_rfl) (fun s => by kernel_rfl) K81.run (by kernel_rfl) (by kernel_rfl) (by kernel_rfl) (by rfl) (by first | assumption | decide +kernel) (by decide +kernel) ⟨rfl, rfl, rfl, rfl, rfl, by decide +kernel⟩ ?hw ?hc
  case hw => w_witness2
  case hc =>
    refine Att.attach_call (n := 63) rfl (by kernel_rfl) fun w s₀ s₁ mg mb fa o pm cd doc a vs ns G Y ho hd hcd hmg0 hobj hints hlen hg => ?_
    obtain ⟨K, KX, c, nl, r⟩ := Y
    have hmg : mg (Str.ofString "law") = some (.ref fa) := by
      have e : (HandSHeadRun.topDef (OpenLaw.row PySem.Challenge.rw_joinkinds_k81_whole_points_alone_and_tog).prog 48).name = (Str.ofString "law") := by kernel_rfl
      rw [← e]
      exact hmg0
    obtain ⟨fd, hb, hF⟩ := K81.facts (P := (PySem.Challenge.rw_joinkinds_k81_whole_points_alone_and_tog).prog) (w := w) left KX G.T.g hmg c nl (JK.dec2 r).2 (JK.dec2 r).1 (by kernel_rfl) (by kernel_rfl)
    exact L2.law_call (CX := L2.CX (PySem.Challenge.rw_joinkinds_k81_whole_points_alone_and_tog).prog w) KX G.T.g G.T.b G.T.builtins G.T.nolimit hg hobj hints (Nat.le_trans hlen (by decide)) hr hF hb (fun H _ hS => ⟨a, ns, rfl, hlen, hS, fun _ => rfl⟩) fun H e s' z => by
      obtain ⟨_, _, _, _, _, _, _, _, _, _, _, _, z⟩ := z
      exact z

end
set_option Elab.async false
set_option maxRecDepth 100000 in
set_option maxHeartbeats 0 in
theorem PySem.Challenge.cw_joinkinds_k81_whole_points_alone_and_tog_holds : PySem.Challenge.rw_joinkinds_k81_whole_points_alone_and_tog.Holds := by
  exact k81_of (kk := 7) (n := 200) (fun ns hl => S81.law_holds 0 (by decide) ns hl) (by first | exact ⟨by decide, by decide, by decide⟩ | exact ⟨rfl, by decide +kernel, by decide +kernel⟩)
