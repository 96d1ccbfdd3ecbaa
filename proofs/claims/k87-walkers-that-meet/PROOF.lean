import PyProof.Rows.All
import HandS.Call
import KE.KDictKeyed
import KE.KeyNested
import HandS.ForMost
import HandS.Exc
import HandS.Lambda
import HandS.Dict
import HandS.Deep
import HandS.Wide
import HandS.Style
import HandS.TupAny
import HandS.TupMul
import HandS.ExcOwn
import HandS.TryOnly
import HandS.WordsExc
import HandS.Small
import HandS.IsInst
import HandS.Conv
import HandS.Zip
import HandS.Walk
import HandS.Defaults
import HandS.SortInts
import HandS.RaiseMore
import HandS.TupLen
import HandS.More
import KE.KDictCopyH
import HandS.DictComp
import KE.GoesEnum
import HandS.TupSets
import HandS.SetFor
import PyProof.EqKinds
import HandS.ExcIs
import PyProof.ExcBaseAll.ValueError
import HandS.Head0
import HandS.Head1
import HandS.Head2
import HandS.HeadEnd
import HandS.HeadHook1
import HandS.HeadHook2
import HandS.HeadHook3
import HandS.HeadHook4
import HandS.HeadWalk
import Wide.All
import OpenK.AllK
import Wide.FinOn
import KE.KStateDown
import PySem.Challenge.RW_dotmaps_k87_whole_walkers_that_meet
set_option Elab.async false
set_option linter.all false
set_option maxRecDepth 100000
set_option maxHeartbeats 200000
/-! EvCore: a position-free core of the program's language, its values as trees, its evaluator. -/
namespace Ev
open PySem
/-- a value as a tree -/
inductive D where
  | non | bl (b : Bool) | int (i : Int) | str (x : Str)
  | tup (ds : List D) | lst (ds : List D) | dct (kvs : List (D × D))
  | obj (c : Str) (fs : List D)
  | fn (x : Str) | hand
  deriving Inhabited
mutual
/-- equality of values without objects as Python sees it (a flag is a number); none where it is not told -/
def D.eq : D → D → Option Bool
  | .non, .non => some true
  | .bl a, .bl b => some (a == b)
  | .bl a, .int j => some ((if a then 1 else 0) == j)
  | .int i, .bl b => some (i == (if b then 1 else 0))
  | .int i, .int j => some (i == j)
  | .str x, .str y => some (x == y)
  | .tup xs, .tup ys => D.eqs xs ys
  | .lst xs, .lst ys => D.eqs xs ys
  | .non, .bl _ => some false | .non, .int _ => some false | .non, .str _ => some false | .non, .tup _ => some false | .non, .lst _ => some false
  | .bl _, .non => some false | .bl _, .str _ => some false | .bl _, .tup _ => some false | .bl _, .lst _ => some false
  | .int _, .non => some false | .int _, .str _ => some false | .int _, .tup _ => some false | .int _, .lst _ => some false
  | .str _, .non => some false | .str _, .bl _ => some false | .str _, .int _ => some false | .str _, .tup _ => some false | .str _, .lst _ => some false
  | .tup _, .non => some false | .tup _, .bl _ => some false | .tup _, .int _ => some false | .tup _, .str _ => some false | .tup _, .lst _ => some false
  | .lst _, .non => some false | .lst _, .bl _ => some false | .lst _, .int _ => some false | .lst _, .str _ => some false | .lst _, .tup _ => some false
  | _, _ => none
def D.eqs : List D → List D → Option Bool
  | [], [] => some true
  | x :: xs, y :: ys => match D.eq x y, D.eqs xs ys with
    | some a, some b => some (a && b)
    | _, _ => none
  | [], _ :: _ => some false
  | _ :: _, [] => some false
end
/-- an exception: its class, its one field -/
structure Exc where
  cls : Str
  arg : Option D := none
inductive R (α : Type) where
  | ok (a : α)
  | ex (e : Exc)
/-- the draw state -/
structure Hand where
  cells : List Int
  i : Int
  a : Int
  b : Int
  c : Int
abbrev St := Option Hand
abbrev Out (α : Type) := Option (R α × St)
def ok {α : Type} (a : α) (s : St) : Out α := some (.ok a, s)
def bnd {α β : Type} (x : Out α) (f : α → St → Out β) : Out β := match x with
  | some (.ok a, s) => f a s
  | some (.ex e, s) => some (.ex e, s)
  | none => none
def lift {α : Type} (x : Option α) (s : St) : Out α := match x with
  | some a => ok a s
  | none => none
@[simp] theorem bnd_ok {α β : Type} (a : α) (s : St) (f : α → St → Out β) : bnd (ok a s) f = f a s := rfl
@[simp] theorem bnd_some {α β : Type} (a : α) (s : St) (f : α → St → Out β) : bnd (some (.ok a, s)) f = f a s := rfl
@[simp] theorem bnd_ex {α β : Type} (e : Exc) (s : St) (f : α → St → Out β) : bnd (some (.ex e, s)) f = some (.ex e, s) := rfl
@[simp] theorem bnd_none {α β : Type} (f : α → St → Out β) : bnd none f = none := rfl
@[simp] theorem lift_some {α : Type} (a : α) (s : St) : lift (some a) s = ok a s := rfl
@[simp] theorem lift_none {α : Type} (s : St) : lift (none : Option α) s = none := rfl
/-! ### the core -/
inductive Bop where | add | sub | mul | fdiv | mod | pow
  deriving DecidableEq
inductive Cop where | eq | ne | lt | le | gt | ge | isin | notin | is | isnot
  deriving DecidableEq
inductive Blt where
  | len | abs | int | tuple | list | sum | all | any | min2 | max2 | min1 | max1 | repr | sorted | lenset | listrng1 | listrng2 | count | dget | dict
  deriving DecidableEq
inductive G where
  | one (i : Nat)
  | tup (gs : List G)
mutual
inductive C where
  | var (i : Nat)
  | int (i : Int) | bl (b : Bool) | non | str (x : Str)
  | glob (x : Str)
  | tup (es : List C) | lst (es : List C) | dct0
  | bin (o : Bop) (a b : C) | neg (a : C)
  | cmp (o : Cop) (a b : C) | chain (o p : Cop) (a b c : C)
  | andv (es : List C) | orv (es : List C) | notv (a : C)
  | ite (t : T) (a b : C)
  | sub (a i : C) | slice (a : C) (lo hi : Option C) | rev (a : C)
  | call (f : Str) (es : List C)
  | new (c : Str) (es : List C)
  | word (e : C)
  | blt (b : Blt) (es : List C)
  | attr (a : C) (f : Str)
  | isi (a : C) (tys : List Str)
  | index (a b : C)
  | comp (own : List Nat) (g : G) (it : I) (t : Option T) (e : C)
  | dcomp (own : List Nat) (g : G) (it : I) (t : Option T) (k v : C)
  | exi (i : Nat) (b : Bool)
inductive T where
  | e (c : C) | all (ts : List T) | any (ts : List T) | not (t : T)
inductive I where
  | seq (c : C) | rng1 (a : C) | rng2 (a b : C) | enum (a : C) | zip (a b : C) | items (a : C)
end
inductive S where
  | asg (i : Nat) (c : C) | own (i : Nat) (c : C) | par (ts : List (Nat × Bool)) (cs : List C) | unp (g : G) (c : C)
  | ret (c : C) | retn | exp (c : C)
  | app (i : Nat) (c : C) | ext (i : Nat) (c : C) | setI (i : Nat) (k v : C) | frz (i : Nat)
  | iff (t : T) (a b : List S) | loop (t : T) (b : List S) | for (g : G) (it : I) (b : List S)
  | brk | cnt | pass | never
  | aug (i : Nat) (o : Bop) (c : C)
  | raise (x : Str) (c : Option C)
/-! ### what operations tell -/
/-- at most so many items -/
def lim : Nat := 16000000
def mulG (i j : Int) : Bool := decide (i.natAbs.log2 + j.natAbs.log2 < 1000000)
def divG (j : Int) : Bool := decide (j ≠ 0) && (decide (j.natAbs < 1073741824) || (decide (0 < j) && decide (j.natAbs.log2 < 9000)))
def powG (i j : Int) : Bool := decide (0 ≤ j) && decide (j ≤ 1000000) && decide (i.natAbs < 2 ^ 64)
def guardD (b : Bool) (d : D) : Option D := if b = true then some d else none
def binD : Bop → D → D → Option D
  | .add, .int i, .int j => some (.int (i + j))
  | .add, .lst xs, .lst ys => guardD (decide (xs.length + ys.length ≤ lim)) (.lst (xs ++ ys))
  | .add, .tup xs, .tup ys => guardD (decide (xs.length + ys.length ≤ lim)) (.tup (xs ++ ys))
  | .add, .str x, .str y => guardD (decide (x.length + y.length ≤ lim)) (.str (x ++ y))
  | .sub, .int i, .int j => some (.int (i - j))
  | .mul, .int i, .int j => guardD (mulG i j) (.int (i * j))
  | .mul, .lst xs, .int k => guardD (decide (0 ≤ k) && decide (k ≤ 100000) && decide (xs.length * k.toNat ≤ lim)) (.lst (List.replicate k.toNat xs).flatten)
  | .mul, .tup xs, .int k => guardD (decide (2 ≤ k) && decide (k ≤ 1000) && decide (xs ≠ []) && decide (xs.length ≤ 1000)) (.tup (List.replicate k.toNat xs).flatten)
  | .fdiv, .int i, .int j => guardD (divG j) (.int (i.fdiv j))
  | .mod, .int i, .int j => guardD (decide (j ≠ 0)) (.int (i.fmod j))
  | .pow, .int i, .int j => guardD (powG i j) (.int (i ^ j.toNat))
  | _, _, _ => none
def augD : Bop → D → D → Option D
  | .add, .int i, .int j => some (.int (i + j))
  | .sub, .int i, .int j => some (.int (i - j))
  | _, _, _ => none
def negD : D → Option D
  | .int i => some (.int (-i))
  | _ => none
mutual
/-- values whose equality is plain, with a bounded depth -/
def D.plain : D → Nat → Bool
  | .non, _ => true | .bl _, _ => true | .int _, _ => true | .str x, _ => PyData.strOk x
  | .tup ds, n + 1 => D.plains ds n
  | .lst ds, n + 1 => D.plains ds n
  | _, _ => false
def D.plains : List D → Nat → Bool
  | [], _ => true
  | d :: ds, n => D.plain d n && D.plains ds n
end
def eqD (x y : D) : Option Bool := if D.plain x 64 && D.plain y 64 then D.eq x y else none
/-- is an item of a list equal -/
def inD (x : D) : List D → Option Bool
  | [] => some false
  | y :: ys => match eqD y x with
    | some true => some true
    | some false => inD x ys
    | none => none
def flatD : D → Bool
  | .non => true | .bl _ => true | .int _ => true | .str _ => true
  | _ => false
def isNon : D → Bool
  | .non => true
  | _ => false
/-- a list, a dict -/
def ownB : D → Bool
  | .lst _ => true
  | .dct _ => true
  | _ => false
/-- an index as a place -/
def ixD (n : Nat) (i : Int) : Option Nat := if 0 ≤ i then (if i < n then some i.toNat else none) else if -(n : Int) ≤ i then some (i + n).toNat else none
/-- a slice's bound as a place -/
def sIxD (n d : Nat) : Option Int → Nat
  | none => d
  | some v => if v < 0 then (v + (n : Int)).toNat else min v.toNat n
def cutD (xs : List D) (lo hi : Option Int) : List D := (xs.drop (sIxD xs.length 0 lo)).take (sIxD xs.length xs.length hi - sIxD xs.length 0 lo)
mutual
/-- a tree as a nested key -/
def nk : D → Option NestedKey
  | .non => some .none
  | .bl b => some (.num (if b then 1 else 0))
  | .int i => some (.num i)
  | .str x => some (.text x)
  | .tup ds => (nks ds).map .tup
  | _ => none
def nks : List D → Option (List NestedKey)
  | [] => some []
  | d :: ds => match nk d, nks ds with
    | some a, some b => some (a :: b)
    | _, _ => none
end
/-- a key of a dict: a tuple -/
def nkT (d : D) : Option NestedKey := match d with
  | .tup ds => (nk (.tup ds)).bind fun x => if x.depth ≤ 8 then some x else none
  | _ => none
def dEq (a b : D) : Bool := match D.eq a b with
  | some c => c
  | none => false
def dLook (kvs : List (D × D)) (k : D) : Option D := match kvs with
  | [] => none
  | (a, v) :: r => if dEq a k = true then some v else dLook r k
def dPut : List (D × D) → D → D → List (D × D)
  | [], k, v => [(k, v)]
  | (a, w) :: r, k, v => if dEq a k = true then (a, v) :: r else (a, w) :: dPut r k v
def subD : D → D → Option D
  | .lst xs, .int i => (ixD xs.length i).bind fun j => xs[j]?
  | .tup xs, .int i => (ixD xs.length i).bind fun j => xs[j]?
  | .dct kvs, k => if (nkT k).isSome = true then dLook kvs k else none
  | _, _ => none
def sliceD : D → Option Int → Option Int → Option D
  | .lst xs, lo, hi => some (.lst (cutD xs lo hi))
  | .tup xs, lo, hi => some (.tup (cutD xs lo hi))
  | _, _, _ => none
def truD : D → Option Bool
  | .bl b => some b
  | .non => some false
  | .int i => some (i != 0)
  | .lst xs => some (!xs.isEmpty)
  | .tup xs => some (!xs.isEmpty)
  | _ => none
def cmpD : Cop → D → D → Option D
  | .eq, x, y => (eqD x y).map .bl
  | .ne, x, y => (eqD x y).map fun b => .bl (!b)
  | .lt, .int i, .int j => some (.bl (decide (i < j)))
  | .le, .int i, .int j => some (.bl (decide (i ≤ j)))
  | .gt, .int i, .int j => some (.bl (decide (j < i)))
  | .ge, .int i, .int j => some (.bl (decide (j ≤ i)))
  | .isin, x, .lst ys => if D.plain x 64 && D.plains ys 63 then (inD x ys).map .bl else none
  | .isin, x, .tup ys => if flatD x && ys.all flatD then (inD x ys).map .bl else none
  | .isin, x, .dct kvs => if (nkT x).isSome = true then some (.bl (dLook kvs x).isSome) else none
  | .notin, x, .lst ys => if D.plain x 64 && D.plains ys 63 then (inD x ys).map fun b => .bl (!b) else none
  | .notin, x, .tup ys => if flatD x && ys.all flatD then (inD x ys).map fun b => .bl (!b) else none
  | .notin, x, .dct kvs => if (nkT x).isSome = true then some (.bl (!(dLook kvs x).isSome)) else none
  | .is, x, .non => some (.bl (isNon x))
  | .isnot, x, .non => some (.bl (!isNon x))
  | .is, .bl a, .bl b => some (.bl (a == b))
  | .isnot, .bl a, .bl b => some (.bl (!(a == b)))
  | _, _, _ => none
/-- is a value of that class -/
def tagS : D → Option Str
  | .non => some "NoneType"
  | .bl _ => some "bool"
  | .int _ => some "int"
  | .str _ => some "str"
  | .tup _ => some "tuple"
  | .lst _ => some "list"
  | .dct _ => some "dict"
  | .obj c _ => some c
  | _ => none
def tagNames : List (Str × String) := [("NoneType", "NoneType"), ("bool", "bool"), ("int", "int"), ("str", "str"), ("tuple", "tuple"), ("list", "list"), ("dict", "dict")]
def clsNames : List (Str × String) := [("bool", "bool"), ("int", "int"), ("str", "str"), ("tuple", "tuple"), ("list", "list"), ("dict", "dict")]
def isiT (t u : Str) : Bool := t == u || (t == "bool" && u == "int")
def isiD (d : D) (ts : List Str) : Option Bool := (tagS d).map fun t => ts.any (isiT t)
/-- the fields of an object, by the classes -/
abbrev Flds := Str → List Str
def ixOf (x : Str) : List Str → Option Nat
  | [] => none
  | y :: ys => if x = y then some 0 else (ixOf x ys).map (· + 1)
def attrD (fl : Flds) : D → Str → Option D
  | .obj c fs, f => (ixOf f (fl c)).bind fun j => fs[j]?
  | _, _ => none
def intsD : List D → Option (List Int)
  | [] => some []
  | .int i :: r => (intsD r).map (i :: ·)
  | _ :: _ => none
def bools : List D → Option (List Bool)
  | [] => some []
  | .bl i :: r => (bools r).map (i :: ·)
  | _ :: _ => none
def items : D → Option (List D)
  | .lst xs => some xs
  | .tup xs => some xs
  | _ => none
def firstIx (x : D) : List D → Option Nat
  | [] => none
  | y :: ys => match eqD y x with
    | some true => some 0
    | some false => (firstIx x ys).map (· + 1)
    | none => none
def countD (x : D) : List D → Option Nat
  | [] => some 0
  | y :: ys => match eqD y x, countD x ys with
    | some b, some n => some (if b = true then n + 1 else n)
    | _, _ => none
def maxI : List Int → Option Int
  | [] => none
  | [a] => some a
  | a :: r => (maxI r).map fun m => if a ≥ m then a else m
def minI : List Int → Option Int
  | [] => none
  | [a] => some a
  | a :: r => (minI r).map fun m => if a ≤ m then a else m
def rngD (a b : Int) : List D := (List.range (b - a).toNat).map fun i => .int (a + (i : Nat))
def rngG (a b : Int) : Bool := decide (-1000000000 ≤ a) && decide (a ≤ 1000000000) && decide (-1000000000 ≤ b) && decide (b ≤ 1000000000) && decide ((b - a).toNat ≤ lim)
def insI (a : Int) : List Int → List Int
  | [] => [a]
  | b :: r => if a ≤ b then a :: b :: r else b :: insI a r
def sortI : List Int → List Int
  | [] => []
  | a :: r => insI a (sortI r)
/-- a tuple of ints -/
def intsT : D → Option (List Int)
  | .tup ds => intsD ds
  | _ => none
def intsTs : List D → Option (List (List Int))
  | [] => some []
  | d :: ds => match intsT d, intsTs ds with
    | some a, some b => some (a :: b)
    | _, _ => none
/-- the distinct ones -/
def distL : List (List Int) → List (List Int)
  | [] => []
  | a :: r => if a ∈ r then distL r else a :: distL r
def indexD (xs : List D) (x : D) : Option D := if (D.plain x 64 && D.plains xs 63) = true then (firstIx x xs).map fun j => .int (j : Nat) else none
def bltD : Blt → List D → Option D
  | .len, [.lst xs] => some (.int xs.length)
  | .len, [.tup xs] => some (.int xs.length)
  | .len, [.dct kvs] => some (.int kvs.length)
  | .len, [.str x] => guardD (decide (x.length ≤ lim)) (.int x.length)
  | .abs, [.int i] => some (.int (if i < 0 then -i else i))
  | .int, [.int i] => some (.int i)
  | .int, [.bl b] => some (.int (if b then 1 else 0))
  | .tuple, [.lst xs] => some (.tup xs)
  | .tuple, [.tup xs] => some (.tup xs)
  | .list, [.lst xs] => some (.lst xs)
  | .list, [.tup xs] => some (.lst xs)
  | .list, [.dct kvs] => some (.lst (kvs.map (·.1)))
  | .sum, [.lst xs] => (intsD xs).map fun ns => .int ns.sum
  | .all, [.lst xs] => (bools xs).map fun bs => .bl (bs.all id)
  | .any, [.lst xs] => (bools xs).map fun bs => .bl (bs.any id)
  | .min2, [.int i, .int j] => some (.int (if j < i then j else i))
  | .max2, [.int i, .int j] => some (.int (if j > i then j else i))
  | .min1, [.lst xs] => (intsD xs).bind fun ns => (minI ns).map .int
  | .max1, [.lst xs] => (intsD xs).bind fun ns => (maxI ns).map .int
  | .repr, [.int i] => guardD (decide (i.natAbs.log2 < 1920)) (.str (Str.ofString (toString i)))
  | .listrng1, [.int n] => guardD (rngG 0 n) (.lst (rngD 0 n))
  | .listrng2, [.int a, .int b] => guardD (rngG a b) (.lst (rngD a b))
  | .count, [.lst xs, .bl b] => (bools xs).map fun bs => .int (bs.count b : Nat)
  | .dget, [.dct kvs, k, x] => if (nkT k).isSome = true then some ((dLook kvs k).getD x) else none
  | .lenset, [.lst xs] => if xs.length < 64 then (intsTs xs).map fun ks => .int (distL ks).length else none
  | .sorted, [.lst xs] => (intsD xs).map fun ns => .lst ((sortI ns).map .int)
  | _, _ => none
/-! ### environments -/
inductive Sl where
  | no | v (d : D) | own (d : D)
  deriving Inhabited
abbrev Env := List Sl
def Env.at (ρ : Env) (i : Nat) : Sl := ρ.getD i .no
def wipeE (ρ : Env) : List Nat → Env
  | [] => ρ
  | v :: vs => (wipeE ρ vs).set v .no
/-- what a slot shows -/
def Sl.val : Sl → Option D
  | .v d => some d
  | _ => none
def Sl.bor : Sl → Option D
  | .v d => some d
  | .own d => some d
  | .no => none
mutual
def bindG : G → D → Env → Option Env
  | .one i, d, ρ => some (ρ.set i (.v d))
  | .tup gs, d, ρ => match d with
    | .tup ds => bindGs gs ds ρ
    | _ => none
def bindGs : List G → List D → Env → Option Env
  | [], [], ρ => some ρ
  | g :: gs, d :: ds, ρ => match bindG g d ρ with
    | some ρ' => bindGs gs ds ρ'
    | none => none
  | _, _, _ => none
end
/-- a borrowed operand: a slot's own list too -/
def bor (c : C) (ρ : Env) (s : St) (x : Out D) : Out D := match c with
  | .var i => lift (ρ.at i).bor s
  | _ => x
def borIf (w : Bool) (c : C) (ρ : Env) (s : St) (x : Out D) : Out D := if w = true then bor c ρ s x else x
def consO : Option D → List D → List D
  | some y, ys => y :: ys
  | none, ys => ys
/-- the turns of a comprehension -/
def mapGo (f : D → St → Out (Option D)) : List D → St → Out (List D)
  | [], s => ok [] s
  | d :: ds, s => bnd (f d s) fun y s => bnd (mapGo f ds s) fun ys s => ok (consO y ys) s
def dictGo (f : D → St → Out (Option (D × D))) : List D → List (D × D) → St → Out (List (D × D))
  | [], acc, s => ok acc s
  | d :: ds, acc, s => bnd (f d s) fun y s => match y with
    | some (k, v) => if (nkT k).isSome = true then dictGo f ds (dPut acc k v) s else none
    | none => dictGo f ds acc s
/-- a comprehension raises nothing -/
def mute {α : Type} (x : Out α) : Out α := match x with
  | some (.ok a, s) => some (.ok a, s)
  | _ => none
abbrev Cl := Str → List D → St → Out D
structure Cf where
  cl : Cl
  nw : Str → List D → Option D
  wd : C → Env → St → Out D
  gl : Str → Option D
  fl : Flds
mutual
def evE (X : Cf) : C → Env → St → Out D
  | .var i, ρ, s => lift (ρ.at i).val s
  | .int i, _, s => ok (.int i) s
  | .bl b, _, s => ok (.bl b) s
  | .non, _, s => ok .non s
  | .str x, _, s => ok (.str x) s
  | .glob x, _, s => lift (X.gl x) s
  | .tup es, ρ, s => bnd (evEs X es ρ s) fun ds s => lift (guardD (decide (ds.length ≤ lim)) (.tup ds)) s
  | .lst es, ρ, s => bnd (evEs X es ρ s) fun ds s => lift (guardD (decide (ds.length ≤ lim)) (.lst ds)) s
  | .dct0, _, s => ok (.dct []) s
  | .bin o a b, ρ, s => bnd (bor a ρ s (evE X a ρ s)) fun x s => bnd (bor b ρ s (evE X b ρ s)) fun y s => lift (binD o x y) s
  | .neg a, ρ, s => bnd (evE X a ρ s) fun x s => lift (negD x) s
  | .cmp o a b, ρ, s => bnd (bor a ρ s (evE X a ρ s)) fun x s => bnd (bor b ρ s (evE X b ρ s)) fun y s => lift (cmpD o x y) s
  | .chain o p a b c, ρ, s => bnd (evE X a ρ s) fun x s => bnd (evE X b ρ s) fun y s => bnd (lift (cmpD o x y) s) fun z s => match z with
    | .bl true => bnd (evE X c ρ s) fun w s => lift (cmpD p y w) s
    | .bl false => ok (.bl false) s
    | _ => none
  | .andv es, ρ, s => evAnd X es ρ s
  | .orv es, ρ, s => evOr X es ρ s
  | .notv a, ρ, s => bnd (evE X a ρ s) fun x s => match x with
    | .bl b => ok (.bl (!b)) s
    | _ => none
  | .ite t a b, ρ, s => bnd (evT X t ρ s) fun c s => if c = true then evE X a ρ s else evE X b ρ s
  | .sub a i, ρ, s => bnd (bor a ρ s (evE X a ρ s)) fun x s => bnd (evE X i ρ s) fun y s => lift (subD x y) s
  | .slice a lo hi, ρ, s => bnd (bor a ρ s (evE X a ρ s)) fun x s => bnd (evP X lo ρ s) fun l s => bnd (evP X hi ρ s) fun h s => lift (sliceD x l h) s
  | .rev a, ρ, s => bnd (bor a ρ s (evE X a ρ s)) fun x s => match x with
    | .lst xs => ok (.lst xs.reverse) s
    | _ => none
  | .call f es, ρ, s => bnd (evEs X es ρ s) fun ds s => X.cl f ds s
  | .new c es, ρ, s => bnd (evEs X es ρ s) fun ds s => lift (X.nw c ds) s
  | .word e, ρ, s => X.wd e ρ s
  | .blt b es, ρ, s => bnd (evBs X es ρ s) fun ds s => lift (bltD b ds) s
  | .attr a f, ρ, s => bnd (evE X a ρ s) fun x s => lift (attrD X.fl x f) s
  | .exi i b, ρ, s => match ρ.at i with
    | .v .hand => ok (.bl b) s
    | _ => none
  | .index a b, ρ, s => bnd (bor a ρ s (evE X a ρ s)) fun x s => match x with
    | .lst xs => bnd (bor b ρ s (evE X b ρ s)) fun y s => lift (indexD xs y) s
    | _ => none
  | .isi a ts, ρ, s => bnd (evE X a ρ s) fun x s => lift ((isiD x ts).map .bl) s
  | .comp own g it t e, ρ, s => bnd (evI X true it ρ s) fun ds s => if ds.length ≤ lim then bnd (mute (mapGo (fun d s => match bindG g d (wipeE ρ own) with
      | some ρ' => bnd (evTo X t ρ' s) fun c s => if c = true then bnd (evE X e ρ' s) fun y s => ok (some y) s else ok none s
      | none => none) ds s)) fun ys s => ok (.lst ys) s else none
  | .dcomp own g it t k v, ρ, s => bnd (evI X true it ρ s) fun ds s => if ds.length ≤ lim then bnd (mute (dictGo (fun d s => match bindG g d (wipeE ρ own) with
      | some ρ' => bnd (evTo X t ρ' s) fun c s => if c = true then bnd (evE X k ρ' s) fun y s => bnd (evE X v ρ' s) fun z s => ok (some (y, z)) s else ok none s
      | none => none) ds [] s)) fun kvs s => ok (.dct kvs) s else none
def evEs (X : Cf) : List C → Env → St → Out (List D)
  | [], _, s => ok [] s
  | c :: cs, ρ, s => bnd (evE X c ρ s) fun d s => bnd (evEs X cs ρ s) fun ds s => ok (d :: ds) s
def evBs (X : Cf) : List C → Env → St → Out (List D)
  | [], _, s => ok [] s
  | c :: cs, ρ, s => bnd (bor c ρ s (evE X c ρ s)) fun d s => bnd (evBs X cs ρ s) fun ds s => ok (d :: ds) s
def evAnd (X : Cf) : List C → Env → St → Out D
  | [], _, _ => none
  | [c], ρ, s => evE X c ρ s
  | c :: cs, ρ, s => bnd (evE X c ρ s) fun x s => match x with
    | .bl true => evAnd X cs ρ s
    | .bl false => ok (.bl false) s
    | _ => none
def evOr (X : Cf) : List C → Env → St → Out D
  | [], _, _ => none
  | [c], ρ, s => evE X c ρ s
  | c :: cs, ρ, s => bnd (evE X c ρ s) fun x s => match x with
    | .bl true => ok (.bl true) s
    | .bl false => evOr X cs ρ s
    | _ => none
def evP (X : Cf) : Option C → Env → St → Out (Option Int)
  | none, _, s => ok none s
  | some c, ρ, s => bnd (evE X c ρ s) fun x s => match x with
    | .int i => ok (some i) s
    | _ => none
def evTo (X : Cf) : Option T → Env → St → Out Bool
  | none, _, s => ok true s
  | some t, ρ, s => evT X t ρ s
def evT (X : Cf) : T → Env → St → Out Bool
  | .e c, ρ, s => bnd (bor c ρ s (evE X c ρ s)) fun x s => lift (truD x) s
  | .all ts, ρ, s => evAll X ts ρ s
  | .any ts, ρ, s => evAny X ts ρ s
  | .not t, ρ, s => bnd (evT X t ρ s) fun b s => ok (!b) s
def evAll (X : Cf) : List T → Env → St → Out Bool
  | [], _, s => ok true s
  | t :: ts, ρ, s => bnd (evT X t ρ s) fun b s => if b = true then evAll X ts ρ s else ok false s
def evAny (X : Cf) : List T → Env → St → Out Bool
  | [], _, s => ok false s
  | t :: ts, ρ, s => bnd (evT X t ρ s) fun b s => if b = true then ok true s else evAny X ts ρ s
def evI (X : Cf) (w : Bool) : I → Env → St → Out (List D)
  | .seq c, ρ, s => bnd (borIf w c ρ s (evE X c ρ s)) fun x s => lift (items x) s
  | .rng1 a, ρ, s => bnd (evE X a ρ s) fun x s => match x with
    | .int n => if rngG 0 n = true then ok (rngD 0 n) s else none
    | _ => none
  | .rng2 a b, ρ, s => bnd (evE X a ρ s) fun x s => bnd (evE X b ρ s) fun y s => match x, y with
    | .int i, .int j => if rngG i j = true then ok (rngD i j) s else none
    | _, _ => none
  | .enum a, ρ, s => bnd (borIf w a ρ s (evE X a ρ s)) fun x s => bnd (lift (items x) s) fun xs s => ok (xs.mapIdx fun i d => .tup [.int (i : Nat), d]) s
  | .zip a b, ρ, s => bnd (borIf w a ρ s (evE X a ρ s)) fun x s => bnd (borIf w b ρ s (evE X b ρ s)) fun y s => match x, y with
    | .lst xs, .lst ys => ok ((xs.zip ys).map fun p => .tup [p.1, p.2]) s
    | .tup xs, .tup ys => ok ((xs.zip ys).map fun p => .tup [p.1, p.2]) s
    | _, _ => none
  | .items a, ρ, s => bnd (borIf w a ρ s (evE X a ρ s)) fun x s => match x with
    | .dct kvs => ok (kvs.map fun p => .tup [p.1, p.2]) s
    | _ => none
end
/-! ### statements -/
inductive Fl where
  | nx (ρ : Env) | brk (ρ : Env) | cnt (ρ : Env) | ret (ρ : Env) (d : D)
/-- a loop's turns to its end -/
def whIter {α β : Type} (step : α → Option (α ⊕ β)) : Nat → α → Option β
  | 0, _ => none
  | n + 1, a => match step a with
    | none => none
    | some (.inl a') => whIter step n a'
    | some (.inr b) => some b
theorem whIter_mono {α β : Type} {step : α → Option (α ⊕ β)} : ∀ {n : Nat} {a : α} {b : β} (m : Nat), whIter step n a = some b → whIter step (n + m) a = some b
  | 0, a, b, m, h => by cases h
  | n + 1, a, b, m, h => by
    rw [show n + 1 + m = (n + m) + 1 by omega]
    unfold whIter at h ⊢
    cases e : step a with
    | none => rw [e] at h; cases h
    | some r =>
      rw [e] at h
      cases r with
      | inl a' => exact whIter_mono m h
      | inr b' => exact h
open Classical in
/-- the loop's end, if it comes -/
noncomputable def wh {α β : Type} (step : α → Option (α ⊕ β)) (a : α) : Option β := if h : ∃ n b, whIter step n a = some b then some (Classical.choose (Classical.choose_spec h)) else none
theorem wh_iff {α β : Type} {step : α → Option (α ⊕ β)} {a : α} {b : β} : wh step a = some b ↔ ∃ n, whIter step n a = some b := by
  unfold wh
  constructor
  · intro h
    split at h
    · rename_i hx
      have := Classical.choose_spec (Classical.choose_spec hx)
      cases h
      exact ⟨_, this⟩
    · cases h
  · rintro ⟨n, hn⟩
    have hx : ∃ n b, whIter step n a = some b := ⟨n, b, hn⟩
    rw [dif_pos hx]
    have h1 := Classical.choose_spec (Classical.choose_spec hx)
    have h2 := whIter_mono n h1
    have h3 := whIter_mono (Classical.choose hx) hn
    rw [Nat.add_comm] at h3
    rw [h2] at h3
    exact h3
theorem wh_eq {α β : Type} (step : α → Option (α ⊕ β)) (a : α) : wh step a = match step a with
    | none => none
    | some (.inl a') => wh step a'
    | some (.inr b) => some b := by
  cases e : step a with
  | none =>
    show wh step a = none
    cases q : wh step a with
    | none => rfl
    | some b =>
      obtain ⟨n, hn⟩ := wh_iff.mp q
      cases n with
      | zero => cases hn
      | succ n => unfold whIter at hn; rw [e] at hn; cases hn
  | some r =>
    cases r with
    | inr b => exact wh_iff.mpr ⟨1, by unfold whIter; rw [e]⟩
    | inl a' =>
      show wh step a = wh step a'
      cases q : wh step a' with
      | some b =>
        obtain ⟨n, hn⟩ := wh_iff.mp q
        exact wh_iff.mpr ⟨n + 1, by unfold whIter; rw [e]; exact hn⟩
      | none =>
        cases q2 : wh step a with
        | none => rfl
        | some b =>
          obtain ⟨n, hn⟩ := wh_iff.mp q2
          cases n with
          | zero => cases hn
          | succ n =>
            unfold whIter at hn
            rw [e] at hn
            rw [wh_iff.mpr ⟨n, hn⟩] at q
            cases q
/-- the turns of a for -/
def forGo (f : D → Env → St → Out Fl) : List D → Env → St → Out Fl
  | [], ρ, s => ok (.nx ρ) s
  | d :: ds, ρ, s => bnd (f d ρ s) fun r s => match r with
    | .nx ρ' => forGo f ds ρ' s
    | .cnt ρ' => forGo f ds ρ' s
    | .brk ρ' => ok (.nx ρ') s
    | .ret ρ' d => ok (.ret ρ' d) s
/-- a turn of a while: test, body -/
def whStep (t : Env → St → Out Bool) (b : Env → St → Out Fl) : Env × St → Option ((Env × St) ⊕ (R Fl × St)) := fun a => match t a.1 a.2 with
  | none => none
  | some (.ex e, s) => some (.inr (.ex e, s))
  | some (.ok false, s) => some (.inr (.ok (.nx a.1), s))
  | some (.ok true, s) => match b a.1 s with
    | none => none
    | some (.ex e, s) => some (.inr (.ex e, s))
    | some (.ok (.nx ρ'), s) => some (.inl (ρ', s))
    | some (.ok (.cnt ρ'), s) => some (.inl (ρ', s))
    | some (.ok (.brk ρ'), s) => some (.inr (.ok (.nx ρ'), s))
    | some (.ok (.ret ρ' d), s) => some (.inr (.ok (.ret ρ' d), s))
/-- a value for a slot that is to own it -/
def ownD : D → Option Sl
  | .lst ds => some (.own (.lst ds))
  | .dct kvs => some (.own (.dct kvs))
  | _ => none
def storePar : List (Nat × Bool) → List D → Env → Option Env
  | [], [], ρ => some ρ
  | (i, w) :: ts, d :: ds, ρ => match (if w = true then ownD d else some (.v d)) with
    | some sl => storePar ts ds (ρ.set i sl)
    | none => none
  | _, _, _ => none
noncomputable section
mutual
def evS (X : Cf) : S → Env → St → Out Fl
  | .asg i c, ρ, s => bnd (evE X c ρ s) fun d s => ok (.nx (ρ.set i (.v d))) s
  | .own i c, ρ, s => bnd (evE X c ρ s) fun d s => bnd (lift (ownD d) s) fun sl s => ok (.nx (ρ.set i sl)) s
  | .par ts cs, ρ, s => bnd (evEs X cs ρ s) fun ds s => bnd (lift (storePar ts ds ρ) s) fun ρ' s => ok (.nx ρ') s
  | .unp g c, ρ, s => bnd (evE X c ρ s) fun d s => bnd (lift (bindG g d ρ) s) fun ρ' s => ok (.nx ρ') s
  | .ret c, ρ, s => bnd (evE X c ρ s) fun d s => ok (.ret ρ d) s
  | .retn, ρ, s => ok (.ret ρ .non) s
  | .exp c, ρ, s => bnd (evE X c ρ s) fun _ s => ok (.nx ρ) s
  | .app i c, ρ, s => match ρ.at i with
    | .own (.lst ds) => bnd (evE X c ρ s) fun d s => if ds.length < lim then ok (.nx (ρ.set i (.own (.lst (ds ++ [d]))))) s else none
    | _ => none
  | .ext i c, ρ, s => match ρ.at i with
    | .own (.lst ds) => bnd (bor c ρ s (evE X c ρ s)) fun d s => match d with
      | .lst xs => if ds.length + xs.length ≤ lim then ok (.nx (ρ.set i (.own (.lst (ds ++ xs))))) s else none
      | _ => none
    | _ => none
  | .setI i k v, ρ, s => bnd (evE X v ρ s) fun d s => match ρ.at i with
    | .own (.lst ds) => bnd (evE X k ρ s) fun j s => match j with
      | .int j => (match ixD ds.length j with
        | some n => ok (.nx (ρ.set i (.own (.lst (ds.set n d))))) s
        | none => none)
      | _ => none
    | .own (.dct kvs) => bnd (evE X k ρ s) fun j s => if (nkT j).isSome = true ∧ kvs.length < lim then ok (.nx (ρ.set i (.own (.dct (dPut kvs j d))))) s else none
    | _ => none
  | .frz i, ρ, s => match ρ.at i with
    | .own d => ok (.nx (ρ.set i (.v d))) s
    | _ => none
  | .iff t a b, ρ, s => bnd (evT X t ρ s) fun c s => if c = true then evSs X a ρ s else evSs X b ρ s
  | .loop t b, ρ, s => wh (whStep (evT X t) (evSs X b)) (ρ, s)
  | .for g it b, ρ, s => bnd (evI X false it ρ s) fun ds s => forGo (fun d ρ s => bnd (lift (bindG g d ρ) s) fun ρ' s => evSs X b ρ' s) ds ρ s
  | .brk, ρ, s => ok (.brk ρ) s
  | .cnt, ρ, s => ok (.cnt ρ) s
  | .pass, ρ, s => ok (.nx ρ) s
  | .never, _, _ => none
  | .aug i o c, ρ, s => match (ρ.at i).val with
    | some x => bnd (evE X c ρ s) fun y s => bnd (lift (augD o x y) s) fun z s => ok (.nx (ρ.set i (.v z))) s
    | none => none
  | .raise x none, _, s => some (.ex ⟨x, none⟩, s)
  | .raise x (some c), ρ, s => bnd (evE X c ρ s) fun d s => some (.ex ⟨x, some d⟩, s)
def evSs (X : Cf) : List S → Env → St → Out Fl
  | [], ρ, s => ok (.nx ρ) s
  | st :: r, ρ, s => bnd (evS X st ρ s) fun f s => match f with
    | .nx ρ' => evSs X r ρ' s
    | f => ok f s
end
/-- a def: how many parameters, how many slots, its body -/
structure Fn where
  par : Nat
  slots : Nat
  body : List S
def startE (n : Nat) (ds : List D) : Env := ds.map .v ++ List.replicate (n - ds.length) .no
structure Pg where
  fns : Str → Option Fn
  prim : Str → Option (Nat × (List D → St → Out D))
  gl : Str → Option D
  fl : Flds
  fnB : Str → Bool
  clB : Str → Bool
  exB : Str → Bool
  nwL : Nat
  nw : Str → List D → Option D
  wrd : Option Str → Option Str
/-- the word of an end -/
def wordD (P : Pg) (x : Out D) : Out D := match x with
  | some (.ok _, s) => lift ((P.wrd none).map .str) s
  | some (.ex ⟨c, none⟩, s) => lift ((P.wrd (some c)).map .str) s
  | _ => none
def runFn (X : Cf) (f : Fn) (ds : List D) (s : St) : Out D := if ds.length = f.par then bnd (evSs X f.body (startE f.slots ds) s) fun r s => match r with
    | .nx _ => ok .non s
    | .ret _ d => ok d s
    | _ => none
  else none
def lvl (P : Pg) (k : Nat) (cf : Cf) : Cl := fun f ds s => match P.prim f with
  | some (l, p) => if l ≤ k + 1 then p ds s else none
  | none => match P.fns f with
    | some fn => if P.nwL ≤ k then runFn cf fn ds s else none
    | none => none
def mkC (P : Pg) (q : Cl × (C → Env → St → Out D)) : Cf := ⟨q.1, P.nw, q.2, P.gl, P.fl⟩
def wdAt (P : Pg) (m : Nat) (cf : Cf) : C → Env → St → Out D := fun e ρ s => if P.nwL ≤ m ∧ s.isSome = true then wordD P (evE cf e ρ s) else none
def prs (P : Pg) : Nat → Cl × (C → Env → St → Out D)
  | 0 => (fun _ _ _ => none, fun _ _ _ => none)
  | 1 => (lvl P 0 (mkC P (prs P 0)), fun _ _ _ => none)
  | 2 => (lvl P 1 (mkC P (prs P 1)), wdAt P 0 (mkC P (prs P 0)))
  | k + 3 => (lvl P (k + 2) (mkC P (prs P (k + 2))), wdAt P (k + 1) (mkC P (prs P (k + 1))))
/-- the functions as they stand at level n -/
def cfOf (P : Pg) (n : Nat) : Cf := mkC P (prs P n)
def call (P : Pg) (n : Nat) : Cl := (prs P n).1
theorem call_succ (P : Pg) (k : Nat) : call P (k + 1) = lvl P k (cfOf P k) := by
  match k with
  | 0 => rfl
  | 1 => rfl
  | k + 2 => rfl
theorem call_zero (P : Pg) (f : Str) (ds : List D) (s : St) : call P 0 f ds s = none := rfl
theorem wd_eq (P : Pg) (k : Nat) (e : C) (ρ : Env) (s : St) : evE (cfOf P (k + 2)) (.word e) ρ s = (if P.nwL ≤ k ∧ s.isSome = true then wordD P (evE (cfOf P k) e ρ s) else none) := by
  match k with
  | 0 => rfl
  | k + 1 => rfl
theorem wd_lo (P : Pg) (k : Nat) (h : k < 2) (e : C) (ρ : Env) (s : St) : evE (cfOf P k) (.word e) ρ s = none := by
  match k, h with
  | 0, _ => rfl
  | 1, _ => rfl
end
end Ev
set_option maxHeartbeats 2000000
/-! EvRep: how trees stand in the abstract heap; what evaluation keeps. -/
namespace Ev
open PySem PySem.Spec PyProof.Rows L2
/-- the written part, the classes' and defs' places, the hand's place -/
structure Kx where
  K : PySem.W.Frag
  w : World
  cls : Str → Option Addr
  ecl : Str → Option Addr
  fns : Str → Option Addr
  fl : Flds
  ha : Addr
  tb : List (Addr × Str)
/-- an entry of a dict whose keys are tuples -/
def nE (w : World) (x : NestedKey × Addr × Value) : DictEntry := ⟨x.1.hash w, .ref x.2.1, x.2.2⟩
def nestP (w : World) (a : Addr) (kas : List (NestedKey × Addr × V)) (h : Heap) : Prop := kas.length ≤ sizeLine ∧ (a == sysModules) = false ∧ ∃ xs : List (NestedKey × Addr × Value),
  Paired (fun p q => p.1 = q.1 ∧ p.2.1 = q.2.1 ∧ RelV p.2.2 q.2.2) kas xs ∧ ∃ o es ep, h.get? a = some o ∧ o.ExactDict ∧ o.data = .dict es ep ∧ es.toList = xs.map (nE w) ∧ (xs.map (·.1)).Nodup
def nestO (w : World) (a : Addr) (kas : List (NestedKey × Addr × V)) : HO := .ext (nestP w a kas)
mutual
inductive Rep (k : Kx) (F : Hp) : V → D → Prop
  | non : Rep k F .non .non
  | bl (b : Bool) : Rep k F (.bl b) (.bl b)
  | int (i : Int) : Rep k F (.int i) (.int i)
  | str (x : Str) : Rep k F (.str x) (.str x)
  | tup {a : Addr} {xs : List V} {ds : List D} : SqT k.K F a xs → Reps k F xs ds → Rep k F (.ref a) (.tup ds)
  | lst {a : Addr} {xs : List V} {ds : List D} : F a = some (.lst xs) → Reps k F xs ds → Rep k F (.ref a) (.lst ds)
  | obj {a C dx : Addr} {c : Str} {fs : List (Str × V)} {ds : List D} : k.cls c = some C → F a = some (.ins C dx fs) → fs.map (·.1) = k.fl c → Reps k F (fs.map (·.2)) ds → Rep k F (.ref a) (.obj c ds)
  | dct {a : Addr} {kas : List (NestedKey × Addr × V)} {kvs : List (D × D)} : F a = some (nestO k.w a kas) → RepN k F kas kvs → Rep k F (.ref a) (.dct kvs)
  | fn {x : Str} {f : Addr} : k.fns x = some f → Rep k F (.ref f) (.fn x)
  | hand : Rep k F (.ref k.ha) .hand
inductive Reps (k : Kx) (F : Hp) : List V → List D → Prop
  | nil : Reps k F [] []
  | cons {v : V} {vs : List V} {d : D} {ds : List D} : Rep k F v d → Reps k F vs ds → Reps k F (v :: vs) (d :: ds)
inductive RepN (k : Kx) (F : Hp) : List (NestedKey × Addr × V) → List (D × D) → Prop
  | nil : RepN k F [] []
  | cons {x : NestedKey} {b : Addr} {v : V} {r : List (NestedKey × Addr × V)} {d e : D} {t : List (D × D)} : nkT d = some x → Rep k F (.ref b) d → Rep k F v e → RepN k F r t → RepN k F ((x, b, v) :: r) ((d, e) :: t)
end
/-- what stands at the place of a list, a dict -/
def Own (k : Kx) (F : Hp) (a : Addr) (d : D) (o : HO) : Prop := match d with
  | .lst ds => ∃ xs, o = .lst xs ∧ Reps k F xs ds
  | .dct kvs => ∃ kas, o = nestO k.w a kas ∧ RepN k F kas kvs
  | _ => False
theorem sameT {K : PySem.W.Frag} {H H' : Hp} {a : Addr} {xs : List V} (e : Same H H') (h : SqT K H a xs) : SqT K H' a xs := by
  rcases h with (h | ⟨o, h⟩) | h
  · exact .inl (.inl (e _ _ h))
  · exact .inl (.inr ⟨o, e _ _ h⟩)
  · exact .inr h
section
variable {k : Kx} {F F' H H' : Hp}
mutual
theorem Rep.mono (e : Same F F') : ∀ {v : V} {d : D}, Rep k F v d → Rep k F' v d
  | _, _, .non => .non
  | _, _, .bl b => .bl b
  | _, _, .int i => .int i
  | _, _, .str x => .str x
  | _, _, .tup h r => .tup (sameT e h) (Reps.mono e r)
  | _, _, .lst h r => .lst (e _ _ h) (Reps.mono e r)
  | _, _, .obj c h f r => .obj c (e _ _ h) f (Reps.mono e r)
  | _, _, .dct h r => .dct (e _ _ h) (RepN.mono e r)
  | _, _, .fn h => .fn h
  | _, _, .hand => .hand
theorem Reps.mono (e : Same F F') : ∀ {vs : List V} {ds : List D}, Reps k F vs ds → Reps k F' vs ds
  | _, _, .nil => .nil
  | _, _, .cons r t => .cons (Rep.mono e r) (Reps.mono e t)
theorem RepN.mono (e : Same F F') : ∀ {vs : List (NestedKey × Addr × V)} {ds : List (D × D)}, RepN k F vs ds → RepN k F' vs ds
  | _, _, .nil => .nil
  | _, _, .cons q r v t => .cons q (Rep.mono e r) (Rep.mono e v) (RepN.mono e t)
end
theorem RepN.len : ∀ {vs : List (NestedKey × Addr × V)} {ds : List (D × D)}, RepN k F vs ds → vs.length = ds.length
  | _, _, .nil => rfl
  | _, _, .cons _ _ _ t => by simp [RepN.len t]
theorem Own.mono {a : Addr} {d : D} {o : HO} (e : Same F F') (h : Own k F a d o) : Own k F' a d o := by
  cases d <;> first | exact h.elim | skip
  case lst ds => obtain ⟨xs, h1, h2⟩ := h; exact ⟨xs, h1, Reps.mono e h2⟩
  case dct ds => obtain ⟨xs, h1, h2⟩ := h; exact ⟨xs, h1, RepN.mono e h2⟩
theorem Own.own {a : Addr} {d : D} {o : HO} (h : Own k F a d o) : ownB d = true := by
  cases d <;> first | exact h.elim | rfl
theorem Own.rep {a : Addr} {d : D} {o : HO} (h : Own k F a d o) (g : F a = some o) : Rep k F (.ref a) d := by
  cases d <;> first | exact h.elim | skip
  case lst ds => obtain ⟨xs, rfl, h2⟩ := h; exact .lst g h2
  case dct ds => obtain ⟨xs, rfl, h2⟩ := h; exact .dct g h2
theorem Rep.own {v : V} {d : D} (h : Rep k F v d) (o : ownB d = true) : ∃ a u, v = .ref a ∧ F a = some u ∧ Own k F a d u := by
  cases h <;> first | (cases o; done) | skip
  case lst a xs ds h r => exact ⟨a, _, rfl, h, xs, rfl, r⟩
  case dct a kas kvs h r => exact ⟨a, _, rfl, h, kas, rfl, r⟩
theorem Reps.length : ∀ {vs : List V} {ds : List D}, Reps k F vs ds → vs.length = ds.length
  | _, _, .nil => rfl
  | _, _, .cons _ t => by simp [Reps.length t]
theorem Reps.get : ∀ {vs : List V} {ds : List D} {i : Nat} {d : D}, Reps k F vs ds → ds[i]? = some d → ∃ v, vs[i]? = some v ∧ Rep k F v d
  | _, _, _, _, .nil, e => by simp at e
  | _, _, 0, _, .cons r _, e => by simp at e; subst e; exact ⟨_, rfl, r⟩
  | _, _, i + 1, d, .cons _ t, e => by
    obtain ⟨v, h1, h2⟩ := Reps.get (i := i) (d := d) t (by simpa using e)
    exact ⟨v, by simpa using h1, h2⟩
theorem Reps.getV : ∀ {vs : List V} {ds : List D} {i : Nat} {v : V}, Reps k F vs ds → vs[i]? = some v → ∃ d, ds[i]? = some d ∧ Rep k F v d
  | _, _, _, _, .nil, e => by simp at e
  | _, _, 0, _, .cons r _, e => by simp at e; subst e; exact ⟨_, rfl, r⟩
  | _, _, i + 1, d, .cons _ t, e => by
    obtain ⟨v, h1, h2⟩ := Reps.getV (i := i) (v := d) t (by simpa using e)
    exact ⟨v, by simpa using h1, h2⟩
theorem Reps.append : ∀ {vs ws : List V} {ds es : List D}, Reps k F vs ds → Reps k F ws es → Reps k F (vs ++ ws) (ds ++ es)
  | _, _, _, _, .nil, s => s
  | _, _, _, _, .cons r t, s => .cons r (Reps.append t s)
theorem Reps.take : ∀ {vs : List V} {ds : List D} (n : Nat), Reps k F vs ds → Reps k F (vs.take n) (ds.take n)
  | _, _, 0, _ => .nil
  | _, _, _ + 1, .nil => .nil
  | _, _, n + 1, .cons r t => .cons r (Reps.take n t)
theorem Reps.drop : ∀ {vs : List V} {ds : List D} (n : Nat), Reps k F vs ds → Reps k F (vs.drop n) (ds.drop n)
  | _, _, 0, r => r
  | _, _, _ + 1, .nil => .nil
  | _, _, n + 1, .cons _ t => Reps.drop n t
theorem Reps.set {v : V} {d : D} (r : Rep k F v d) : ∀ {vs : List V} {ds : List D} (i : Nat), Reps k F vs ds → Reps k F (vs.set i v) (ds.set i d)
  | _, _, _, .nil => .nil
  | _, _, 0, .cons _ t => .cons r t
  | _, _, i + 1, .cons q t => .cons q (Reps.set r i t)
theorem Reps.rev {vs : List V} {ds : List D} (r : Reps k F vs ds) : Reps k F vs.reverse ds.reverse := by
  induction vs generalizing ds with
  | nil => cases r; exact .nil
  | cons v vs ih =>
    cases r with
    | cons r t =>
      rw [List.reverse_cons, List.reverse_cons]
      exact Reps.append (ih t) (.cons r .nil)
theorem Reps.rep {vs : List V} {ds : List D} (r : Reps k F vs ds) : ∀ n : Nat, Reps k F (List.replicate n vs).flatten (List.replicate n ds).flatten
  | 0 => .nil
  | n + 1 => by
    rw [List.replicate_succ, List.replicate_succ, List.flatten_cons, List.flatten_cons]
    exact Reps.append r (Reps.rep r n)
end
/-- no table -/
def NT (o : HO) : Prop := ∀ ps, o ≠ .tbl ps
/-- what stands, tables left out -/
def nt (H : Hp) : Hp := fun p => match H p with
  | some (.tbl _) => none
  | x => x
theorem nt_none {H : Hp} {p : Addr} (h : H p = none) : nt H p = none := by
  unfold nt
  rw [h]
theorem nt_some {H : Hp} {p : Addr} {o : HO} (h : H p = some o) (n : NT o) : nt H p = some o := by
  unfold nt
  rw [h]
  cases o <;> first | rfl | exact absurd rfl (n _)
theorem nt_ne {H : Hp} {a b : Addr} {o : HO} (h : H a = some o) (n : NT o) (g : nt H b = none) : a ≠ b := fun e => by
  rw [e] at h
  rw [nt_some h n] at g
  cases g
theorem nt_upd {H : Hp} {a b : Addr} {o : HO} (h : b ≠ a) : nt (upd H a o) b = nt H b := by
  unfold nt
  rw [upd_ne h]
/-- addresses that the state alone says -/
def Mx (k : Kx) (s : St) (p : Addr) : Prop := (s.isSome = true ∧ p = k.ha) ∨ p ∈ k.tb.map (·.1)
def TabOk (k : Kx) (F H : Hp) : Prop := (∀ q ∈ k.tb, F q.1 = none ∧ LamX.TabS H q.1 q.2) ∧ ∀ b ps, F b ≠ some (.tbl ps)
def HandOk (k : Kx) (F H : Hp) (s : St) : Prop := TabOk k F H ∧ ∀ h, s = some h → F k.ha = none ∧ ∃ hc, H k.ha = some (.lst [.ref hc, .int h.i, .int h.a, .int h.b, .int h.c]) ∧ F hc = some (.lst (h.cells.map V.int))
/-- from (F, H, s) to (F', H', s'): F, F' what will never change -/
structure Ext (k : Kx) (F H : Hp) (s : St) (F' H' : Hp) (s' : St) : Prop where
  ff : Same F F'
  fh : Same F' H'
  hx : ∀ p o, H p = some o → NT o → ¬ Mx k s p → H' p = some o
  nn : ∀ p, nt H p ≠ none → nt H' p ≠ none
  nf : ∀ p, nt H p ≠ none → F p = none → F' p = none
  st : s'.isSome = s.isSome
  hand : HandOk k F' H' s'
section
variable {k : Kx} {F H F1 H1 F2 H2 : Hp} {s s1 s2 : St}
theorem Mx.iff (e : s1.isSome = s.isSome) {p : Addr} : Mx k s1 p ↔ Mx k s p := by unfold Mx; rw [e]
theorem Ext.trans (a : Ext k F H s F1 H1 s1) (b : Ext k F1 H1 s1 F2 H2 s2) : Ext k F H s F2 H2 s2 where
  ff := a.ff.trans b.ff
  fh := b.fh
  hx := fun p o h z n => b.hx p o (a.hx p o h z n) z fun q => n ((Mx.iff a.st).mp q)
  nn := fun p h => b.nn p (a.nn p h)
  nf := fun p h n => b.nf p (a.nn p h) (a.nf p h n)
  st := b.st.trans a.st
  hand := b.hand
theorem Ext.refl (fh : Same F H) (hd : HandOk k F H s) : Ext k F H s F H s := ⟨Same.refl _, fh, fun _ _ h _ _ => h, fun _ h => h, fun _ _ h => h, rfl, hd⟩
theorem Ext.hh (E : Ext k F H s F1 H1 s1) (p : Addr) (o : HO) (h : H p = some o) (m : ¬ Mx k s p) (n : NT o := by first | (intro ps z; cases z; done) | assumption) : H1 p = some o := E.hx p o h n m
theorem HandOk.at {p : Addr} (h : HandOk k F H s) (m : Mx k s p) : F p = none ∧ H p ≠ none := by
  rcases m with ⟨e, rfl⟩ | m
  · obtain ⟨x, rfl⟩ := Option.isSome_iff_exists.mp e
    obtain ⟨h1, hc, h2, _⟩ := h.2 x rfl
    exact ⟨h1, by rw [h2]; simp⟩
  · obtain ⟨q, hq, rfl⟩ := List.mem_map.mp m
    obtain ⟨f, ps, g, _⟩ := h.1.1 q hq
    exact ⟨f, by rw [g]; simp⟩
/-- what is new is not the state's -/
theorem HandOk.nmx {p : Addr} {u : HO} (h : HandOk k F H s) (h1 : HandOk k F1 H1 s1) (e : s1.isSome = s.isSome) (n : nt H p = none) (g : H1 p = some u) (z : NT u) : ¬ Mx k s1 p := fun m => by
  rcases m with ⟨e1, rfl⟩ | m
  · rw [e] at e1
    obtain ⟨x, rfl⟩ := Option.isSome_iff_exists.mp e1
    obtain ⟨_, hc, h2, _⟩ := h.2 x rfl
    rw [nt_some h2 (fun ps w => by cases w)] at n
    cases n
  · obtain ⟨q, hq, rfl⟩ := List.mem_map.mp m
    obtain ⟨ps, g2, _⟩ := (h1.1.1 q hq).2
    rw [g2] at g
    exact z ps (Option.some.inj g).symm
/-- a new object, not yet sealed -/
theorem Ext.new {p : Addr} {o : HO} (fh : Same F H) (hd : HandOk k F H s) (n : H p = none) : Ext k F H s F (upd H p o) s where
  ff := Same.refl _
  fh := fun b u e => by rw [upd_ne (ne_of_none (fh b u e) n)]; exact fh b u e
  hx := fun b u e _ _ => by rw [upd_ne (ne_of_none e n)]; exact e
  nn := fun b e => by
    have ne : b ≠ p := fun z => e (by rw [z]; exact nt_none n)
    rw [nt_upd ne]
    exact e
  nf := fun _ _ h => h
  st := rfl
  hand := by
    obtain ⟨⟨h4, h5⟩, h0⟩ := hd
    refine ⟨⟨fun q hq => ⟨(h4 q hq).1, (h4 q hq).2.ext fun b u e => by rw [upd_ne (ne_of_none e n)]; exact e⟩, h5⟩, fun x hx => ?_⟩
    obtain ⟨h1, hc, h2, h3⟩ := h0 x hx
    exact ⟨h1, hc, by rw [upd_ne (ne_of_none h2 n)]; exact h2, h3⟩
/-- a new object, sealed at once -/
theorem Ext.lock {p : Addr} {o : HO} (E : Ext k F H s F1 H1 s1) (n : nt H p = none) (h1 : H1 p = some o) (hm : ¬ Mx k s1 p) (hf : F1 p = none) (z : NT o := by first | (intro ps z; cases z; done) | assumption) : Ext k F H s (upd F1 p o) H1 s1 where
  ff := fun b u e => by
    have h := E.ff b u e
    rw [upd_ne (ne_of_none h hf)]
    exact h
  fh := fun b u e => by
    by_cases q : b = p
    · subst q; rw [upd_same] at e; cases e; exact h1
    · rw [upd_ne q] at e; exact E.fh b u e
  hx := E.hx
  nn := E.nn
  nf := fun b h g => by
    by_cases q : b = p
    · subst q; exact absurd n h
    · rw [upd_ne q]; exact E.nf b h g
  st := E.st
  hand := by
    obtain ⟨⟨g4, g5⟩, h0⟩ := E.hand
    refine ⟨⟨fun q hq => ⟨?_, (g4 q hq).2⟩, fun b ps e => ?_⟩, fun x hx => ?_⟩
    · rw [upd_ne fun z => hm (.inr (by rw [← z]; exact List.mem_map_of_mem hq))]
      exact (g4 q hq).1
    · by_cases q : b = p
      · rw [q, upd_same] at e; exact z ps (Option.some.inj e)
      · rw [upd_ne q] at e; exact g5 b ps e
    · obtain ⟨g1, hc, g2, g3⟩ := h0 x hx
      have ne : k.ha ≠ p := fun q => hm (.inl ⟨by rw [hx]; rfl, q.symm⟩)
      refine ⟨by rw [upd_ne ne]; exact g1, hc, g2, ?_⟩
      rw [upd_ne (ne_of_none g3 hf)]
      exact g3
theorem Ext.fnone {p : Addr} (E : Ext k F H s F1 H1 s1) (n : H1 p = none) : F1 p = none := by
  cases q : F1 p with
  | none => rfl
  | some o => rw [E.fh p o q] at n; cases n
theorem Ext.hnone {p : Addr} (E : Ext k F H s F1 H1 s1) (n : nt H1 p = none) : nt H p = none := by
  cases q : nt H p with
  | none => rfl
  | some o => exact absurd n (E.nn p (by rw [q]; simp))
theorem Ext.mnone {p : Addr} (E : Ext k F H s F1 H1 s1) (n : H1 p = none) : ¬ Mx k s1 p := fun m => (E.hand.at m).2 n
end
/-- what is changed is no code object, no table -/
def Plain (o : HO) : Prop := (∀ c q, o ≠ LamX.CodeO c q) ∧ ∀ ps, o ≠ .tbl ps
theorem plain_lst (xs : List V) : Plain (.lst xs) := ⟨fun c q z => (by unfold LamX.CodeO at z; cases z), fun ps z => by cases z⟩
theorem plain_nest (w : World) (a : Addr) (kas : List (NestedKey × Addr × V)) : Plain (nestO w a kas) := by
  refine ⟨fun c q z => ?_, fun ps z => by unfold nestO at z; cases z⟩
  unfold nestO LamX.CodeO at z
  injection z with z
  let ob : Obj := { cls := .none, data := .fields #[.none, .str q 0] }
  let h0 : Heap := { objs := Array.replicate (c + 1) ob }
  have g : ∀ (b : Addr) (o : Obj), h0.get? b = some o → o = ob := fun b o e => by
    unfold Heap.get? at e
    have e2 : h0.objs[b]? = if b < c + 1 then some ob else none := by
      show (Array.replicate (c + 1) ob)[b]? = _
      rw [Array.getElem?_replicate]
    rw [e2] at e
    split at e
    · cases e
    · split at e
      · cases e; rfl
      · cases e
  have hc : h0.get? c = some ob := by
    unfold Heap.get?
    have e2 : h0.objs[c]? = some ob := by
      show (Array.replicate (c + 1) ob)[c]? = _
      rw [Array.getElem?_replicate, if_pos (Nat.lt_succ_self c)]
    rw [e2]
  have hp : nestP w a kas h0 := by
    rw [z]
    exact ⟨ob, _, 0, hc, rfl, rfl⟩
  obtain ⟨_, _, _, _, o, es, ep, h1, _, h2, _⟩ := hp
  rw [g a o h1] at h2
  cases h2
theorem TabS_upd {H : Hp} {D : Addr} {o o' : HO} {P : Addr} {q : Str} (t : LamX.TabS H P q) (h : H D = some o') (pl : Plain o') : LamX.TabS (upd H D o) P q := by
  obtain ⟨ps, h1, h2, h3⟩ := t
  have ne : P ≠ D := fun z => by rw [z, h] at h1; exact pl.2 ps (Option.some.inj h1)
  refine ⟨ps, by rw [upd_ne ne]; exact h1, h2, fun pos cv hc => ?_⟩
  obtain ⟨c, e1, e2⟩ := h3 pos cv hc
  have nc : c ≠ D := fun z => by rw [z, h] at e2; exact pl.1 _ _ (Option.some.inj e2)
  exact ⟨c, e1, by rw [upd_ne nc]; exact e2⟩
theorem Own.plain {k : Kx} {F : Hp} {a : Addr} {d : D} {o : HO} (h : Own k F a d o) : Plain o := by
  cases d <;> first | exact h.elim | skip
  case lst ds => obtain ⟨xs, rfl, _⟩ := h; exact plain_lst xs
  case dct ds => obtain ⟨xs, rfl, _⟩ := h; exact plain_nest _ _ _
/-- a slot: its value sealed, or its own list at the address P -/
def SlOk (k : Kx) (F H : Hp) (P : Addr) : Option (Option V) → Sl → Prop
  | _, .no => True
  | some (some v), .v d => Rep k F v d
  | some (some v), .own d => v = .ref P ∧ F P = none ∧ ∃ o, H P = some o ∧ Own k F P d o
  | _, _ => False
def isOwn : Sl → Bool
  | .own _ => true
  | _ => false
/-- the state at a def's entry -/
structure Bs where
  F : Hp
  H : Hp
  s : St
  G : Hp
structure EnvOk (k : Kx) (B : Bs) (F H : Hp) (σ : L2.St) (ρ : Env) (s : St) : Prop where
  ext : Ext k B.F B.H B.s F H s
  gf : Same B.G F
  len : σ.length = ρ.length
  sl : ∃ A : Nat → Addr, (∀ i, SlOk k F H (A i) σ[i]? (ρ.at i)) ∧ (∀ i j, i ≠ j → isOwn (ρ.at i) = true → isOwn (ρ.at j) = true → A i ≠ A j) ∧ ∀ i, isOwn (ρ.at i) = true → nt B.H (A i) = none ∧ ¬ Mx k s (A i)
section
variable {k : Kx} {B : Bs} {F H F' H' : Hp} {σ : L2.St} {ρ : Env} {s s' : St}
theorem SlOk.ext {P : Addr} {o : Option (Option V)} {x : Sl} (E : Ext k F H s F' H' s') (hm : isOwn x = true → ¬ Mx k s P) (h : SlOk k F H P o x) : SlOk k F' H' P o x := by
  cases x with
  | no => trivial
  | v d =>
    match o, h with
    | some (some v), h => exact Rep.mono E.ff h
  | own ds =>
    match o, h with
    | some (some v), ⟨e, f, xs, g, r⟩ => exact ⟨e, E.nf P (by rw [nt_some g r.plain.2]; simp) f, xs, E.hh P _ g (hm rfl) r.plain.2, Own.mono E.ff r⟩
theorem EnvOk.next (ok : EnvOk k B F H σ ρ s) (E : Ext k F H s F' H' s') : EnvOk k B F' H' σ ρ s' := by
  obtain ⟨A, h1, h2, h3⟩ := ok.sl
  exact ⟨ok.ext.trans E, ok.gf.trans E.ff, ok.len, A, fun i => (h1 i).ext E fun o => (h3 i o).2, h2, fun i o => ⟨(h3 i o).1, fun m => (h3 i o).2 ((Mx.iff E.st).mp m)⟩⟩
theorem EnvOk.self (ok : EnvOk k B F H σ ρ s) : Ext k F H s F H s := Ext.refl ok.ext.fh ok.ext.hand
theorem EnvOk.val (ok : EnvOk k B F H σ ρ s) {i : Nat} {d : D} (h : (ρ.at i).val = some d) : ∃ v, σ[i]? = some (some v) ∧ Rep k F v d := by
  obtain ⟨A, h1, h2, h3⟩ := ok.sl
  have g := h1 i
  cases e : ρ.at i with
  | v d' =>
    rw [e] at h g
    cases h
    match q : σ[i]?, g with
    | some (some v), g => exact ⟨v, rfl, g⟩
  | _ => rw [e] at h; cases h
end
/-- an exception as it lies -/
structure ExcOk (k : Kx) (F H : Hp) (e : Exc) (cls : Value) (dd : Option Addr) : Prop where
  cls : ∃ C, k.ecl e.cls = some C ∧ cls = .ref C
  arg : match e.arg with
    | none => dd = none
    | some d => ∃ (a : Addr) (f : Str) (v : V), dd = some a ∧ k.fl e.cls = [f] ∧ H a = some (.xd [(f, v)]) ∧ Rep k F v d
/-- what follows an evaluation from (F, H, s) -/
def Post (k : Kx) (W : XK) (F H : Hp) (s : St) {α : Type} (o : Out α) (Q : α → St → Hp → Hp → Prop) : Prop := match o with
  | some (.ok a, s') => ∀ F' H', Ext k F H s F' H' s' → Q a s' F' H'
  | some (.ex e, s') => ∀ F' H' cls dd, Ext k F H s F' H' s' → ExcOk k F' H' e cls dd → W cls dd H'
  | none => False
section
variable {k : Kx} {W : XK} {F H F1 H1 : Hp} {s s1 : St} {α β : Type} {o : Out α} {Q Q' : α → St → Hp → Hp → Prop}
theorem Post.mono (p : Post k W F H s o Q) (h : ∀ a s' F' H', Ext k F H s F' H' s' → Q a s' F' H' → Q' a s' F' H') : Post k W F H s o Q' := by
  match o, p with
  | some (.ok a, s'), p => exact fun F' H' E => h a s' F' H' E (p F' H' E)
  | some (.ex e, s'), p => exact p
theorem Post.from (p : Post k W F H s o Q) (E : Ext k F H s F1 H1 s1) : Post k W F1 H1 s1 o Q := by
  match o, p with
  | some (.ok a, s'), p => exact fun F' H' E' => p F' H' (E.trans E')
  | some (.ex e, s'), p => exact fun F' H' cls dd E' => p F' H' cls dd (E.trans E')
theorem Post.bnd {x : Out β} {f : β → St → Out α} (p : Post k W F H s (Ev.bnd x f) Q) : Post k W F H s x fun a s1 F1 H1 => Post k W F1 H1 s1 (f a s1) Q := by
  match x, p with
  | some (.ok a, s1), p => exact fun F1 H1 E => Post.from (show Post k W F H s (f a s1) Q from p) E
  | some (.ex e, s1), p => exact p
theorem Post.ok {a : α} (p : Post k W F H s (Ev.ok a s1) Q) {F' H' : Hp} (E : Ext k F H s F' H' s1) : Q a s1 F' H' := p F' H' E
theorem Post.lift {x : Option α} (p : Post k W F H s (Ev.lift x s) Q) : ∃ a, x = some a ∧ ∀ F' H', Ext k F H s F' H' s → Q a s F' H' := by
  cases x with
  | none => exact p.elim
  | some a => exact ⟨a, rfl, p⟩
end
end Ev
set_option maxHeartbeats 4000000
/-! EvDict: dicts whose keys are tuples. -/
namespace Ev
open PySem PySem.Spec PyProof.Rows L2
section
variable {k : Kx} {X : Cx} {pins : List (Addr × Obj)} {σ : L2.St} {F H : Hp} {s : Shared}
mutual
theorem nk_is (I : Inv X pins σ H s) (hK : X.K = k.K) (fh : Same F H) : ∀ (d : D) {v : V} {u : Value} {x : NestedKey}, Rep k F v d → RelV v u → nk d = some x → NestedIs s.heap x u
  | .non, _, _, _, r, q, e => by cases r; cases e; cases (show _ = _ from q); exact .none
  | .bl b, _, _, _, r, q, e => by cases r; cases e; cases (show _ = _ from q); exact .bool rfl
  | .int i, _, _, _, r, q, e => by cases r; cases e; obtain ⟨t, rfl⟩ := q; exact .int _ _
  | .str i, _, _, _, r, q, e => by cases r; cases e; obtain ⟨t, rfl⟩ := q; exact .text _ _
  | .tup ds, _, _, _, r, q, e => by
    cases r with
    | tup h1 r1 =>
      obtain ⟨ks, e1, rfl⟩ := Option.map_eq_some_iff.mp (show (nks ds).map _ = some _ from e)
      cases (show _ = _ from q)
      obtain ⟨its, rv, ⟨o, ho, hc, m, hd⟩, _⟩ := I.tuple (by rw [hK]; exact sameT fh h1)
      exact .tup ho hc hd (nks_is I hK fh ds r1 (by simpa using rv) e1)
  | .lst _, _, _, _, _, _, e => by cases e
  | .dct _, _, _, _, _, _, e => by cases e
  | .obj _ _, _, _, _, _, _, e => by cases e
  | .fn _, _, _, _, _, _, e => by cases e
  | .hand, _, _, _, _, _, e => by cases e
theorem nks_is (I : Inv X pins σ H s) (hK : X.K = k.K) (fh : Same F H) : ∀ (ds : List D) {vs : List V} {us : List Value} {xs : List NestedKey}, Reps k F vs ds → Vals vs us → nks ds = some xs → NestedAll s.heap xs us
  | [], _, _, _, .nil, .nil, e => by cases e; exact .nil
  | d :: ds, _, _, _, .cons r t, .cons q w, e => by
    simp only [nks] at e
    cases e1 : nk d with
    | none => rw [e1] at e; cases e
    | some x =>
      cases e2 : nks ds with
      | none => rw [e1, e2] at e; cases e
      | some xs =>
        rw [e1, e2] at e
        cases e
        exact .cons (nk_is I hK fh d r q e1) (nks_is I hK fh ds t w e2)
end
theorem nkT_is (I : Inv X pins σ H s) (hK : X.K = k.K) (fh : Same F H) {d : D} {v : V} {x : NestedKey} (r : Rep k F v d) (e : nkT d = some x) : ∃ b, v = .ref b ∧ NestedIs s.heap x (.ref b) ∧ x.depth ≤ 8 := by
  cases r <;> first | (cases e; done) | skip
  rename_i a xs ds h1 r1
  obtain ⟨y, e1, e2⟩ := Option.bind_eq_some_iff.mp (show (nk (.tup ds)).bind _ = some x from e)
  split at e2
  · cases e2
    exact ⟨a, rfl, nk_is I hK fh _ (.tup h1 r1) rfl e1, by assumption⟩
  · cases e2
mutual
theorem nk_eq : ∀ (a b : D) {x y : NestedKey}, nk a = some x → nk b = some y → D.eq a b = some (NestedKey.beq x y)
  | .non, b, x, y, h, g => by cases h; cases b <;> first | (cases g; done) | (cases g; rfl) | (obtain ⟨_, _, rfl⟩ := Option.map_eq_some_iff.mp (show (nks _).map _ = some _ from g); rfl)
  | .bl i, b, x, y, h, g => by cases h; cases b <;> first | (cases g; done) | (cases g; rfl) | (cases g; cases i <;> rename_i j <;> cases j <;> rfl) | (obtain ⟨_, _, rfl⟩ := Option.map_eq_some_iff.mp (show (nks _).map _ = some _ from g); rfl)
  | .int i, b, x, y, h, g => by cases h; cases b <;> first | (cases g; done) | (cases g; rfl) | (obtain ⟨_, _, rfl⟩ := Option.map_eq_some_iff.mp (show (nks _).map _ = some _ from g); rfl)
  | .str i, b, x, y, h, g => by cases h; cases b <;> first | (cases g; done) | (cases g; rfl) | (obtain ⟨_, _, rfl⟩ := Option.map_eq_some_iff.mp (show (nks _).map _ = some _ from g); rfl)
  | .tup ds, b, x, y, h, g => by
    obtain ⟨xs, e1, rfl⟩ := Option.map_eq_some_iff.mp (show (nks ds).map _ = some _ from h)
    cases b <;> first | (cases g; done) | (cases g; rfl) | skip
    rename_i es
    obtain ⟨ys, e2, rfl⟩ := Option.map_eq_some_iff.mp (show (nks es).map _ = some _ from g)
    exact nks_eq ds es e1 e2
  | .lst _, _, _, _, h, _ => by cases h
  | .dct _, _, _, _, h, _ => by cases h
  | .obj _ _, _, _, _, h, _ => by cases h
  | .fn _, _, _, _, h, _ => by cases h
  | .hand, _, _, _, h, _ => by cases h
theorem nks_eq : ∀ (as bs : List D) {xs ys : List NestedKey}, nks as = some xs → nks bs = some ys → D.eqs as bs = some (NestedKey.beqAll xs ys)
  | [], [], _, _, h, g => by cases h; cases g; rfl
  | [], b :: bs, _, _, h, g => by
    cases h
    simp only [nks] at g
    cases e1 : nk b with
    | none => rw [e1] at g; cases g
    | some y => cases e2 : nks bs with
      | none => rw [e1, e2] at g; cases g
      | some ys => rw [e1, e2] at g; cases g; rfl
  | a :: as, [], _, _, h, g => by
    cases g
    simp only [nks] at h
    cases e1 : nk a with
    | none => rw [e1] at h; cases h
    | some y => cases e2 : nks as with
      | none => rw [e1, e2] at h; cases h
      | some ys => rw [e1, e2] at h; cases h; rfl
  | a :: as, b :: bs, _, _, h, g => by
    simp only [nks] at h g
    cases e1 : nk a with
    | none => rw [e1] at h; cases h
    | some x => cases e2 : nks as with
      | none => rw [e1, e2] at h; cases h
      | some xs => cases e3 : nk b with
        | none => rw [e3] at g; cases g
        | some y => cases e4 : nks bs with
          | none => rw [e3, e4] at g; cases g
          | some ys =>
            rw [e1, e2] at h
            rw [e3, e4] at g
            cases h
            cases g
            simp only [D.eqs, nk_eq a b e1 e3, nks_eq as bs e2 e4]
            rfl
end
theorem nkT_nk {d : D} {x : NestedKey} (h : nkT d = some x) : nk d = some x := by
  cases d <;> first | (cases h; done) | skip
  obtain ⟨y, e1, e2⟩ := Option.bind_eq_some_iff.mp (show (nk (.tup _)).bind _ = some x from h)
  split at e2
  · cases e2; exact e1
  · cases e2
theorem dEq_nk {a b : D} {x y : NestedKey} (h : nkT a = some x) (g : nkT b = some y) : dEq a b = decide (x = y) := by
  unfold dEq
  rw [nk_eq a b (nkT_nk h) (nkT_nk g), NestedKey.decide_eq]
abbrev NP : NestedKey × Addr × V → NestedKey × Addr × Value → Prop := fun p q => p.1 = q.1 ∧ p.2.1 = q.2.1 ∧ RelV p.2.2 q.2.2
theorem dict_of (I : Inv X pins σ H s) (hK : X.K = k.K) (hw : X.w = k.w) (fh : Same F H) {a : Addr} {kas : List (NestedKey × Addr × V)} {kvs : List (D × D)} (e : H a = some (nestO k.w a kas)) (r : RepN k F kas kvs) :
    kas.length ≤ sizeLine ∧ (a == sysModules) = false ∧ ∃ xs, Paired NP kas xs ∧ s.heap.DictOfH (nestedKind X.prog X.w) a xs := by
  obtain ⟨⟨h1, h2, xs, h3, o, es, ep, h4, h5, h6, h7, h8⟩, st⟩ := (show ObjOk X.prog X.w H s.heap a (nestO k.w a kas) from I.hok a _ e)
  refine ⟨h1, h2, xs, h3, o, es, ep, h4, h5, h6, by rw [h7, ← hw]; rfl, ?_, h8⟩
  clear st h4 h5 h6 h7 h8 h1 h2 e
  induction h3 generalizing kvs with
  | nil => intro x hx; cases hx
  | cons p q ih =>
    cases r with
    | cons n rb rv t =>
      intro x hx
      rcases List.mem_cons.mp hx with z | z
      · subst z
        obtain ⟨p1, p2, p3⟩ := p
        obtain ⟨b, hb, h9, h10⟩ := nkT_is I hK fh rb n
        cases hb
        exact ⟨by rw [← p1, ← p2]; exact h9, by rw [← p1]; exact h10⟩
      · exact ih t x z
theorem look_of : ∀ {kas : List (NestedKey × Addr × V)} {kvs : List (D × D)} {xs : List (NestedKey × Addr × Value)} {d : D} {x : NestedKey}, RepN k F kas kvs → Paired NP kas xs → nkT d = some x →
    (dLook kvs d = none ∧ atKey xs x = none) ∨ ∃ e v b u, dLook kvs d = some e ∧ atKey xs x = some (b, u) ∧ RelV v u ∧ Rep k F v e
  | _, _, _, d, x, .nil, .nil, h => .inl ⟨rfl, rfl⟩
  | _, _, _, d, x, .cons (x := y) (b := b) (v := v) (d := a) (e := e) (t := t) n rb rv r, .cons (b := q) (l₂ := xs) ⟨p1, p2, p3⟩ w, h => by
    have z := dEq_nk n h
    by_cases g : y = x
    · subst g
      refine .inr ⟨e, v, q.2.1, q.2.2, ?_, ?_, p3, rv⟩
      · unfold dLook; rw [z, if_pos (by simp)]
      · have p1 : y = q.1 := p1
        unfold atKey
        rw [List.find?_cons_of_pos (by simp [p1])]
        rfl
    · have e1 : dLook ((a, e) :: t) d = dLook t d := by
        show (if dEq a d = true then some e else dLook t d) = _
        rw [z, if_neg (by simpa using g)]
      have e2 : atKey (q :: xs) x = atKey xs x := by
        unfold atKey
        rw [List.find?_cons_of_neg (by rw [← p1]; simpa using g)]
      rw [e1, e2]
      exact look_of r w h
/-- stored in the model's list -/
def putN : List (NestedKey × Addr × V) → NestedKey → Addr → V → List (NestedKey × Addr × V)
  | [], x, b, v => [(x, b, v)]
  | (y, c, w) :: r, x, b, v => if y = x then (y, c, v) :: r else (y, c, w) :: putN r x b v
theorem putN_len (x : NestedKey) (b : Addr) (v : V) : ∀ kas, (putN kas x b v).length ≤ kas.length + 1
  | [] => Nat.le_refl _
  | (y, c, w) :: r => by
    unfold putN
    have := putN_len x b v r
    split <;> simp <;> omega
theorem putN_rep {x : NestedKey} {b : Addr} {v : V} {d e : D} (n : nkT d = some x) (rb : Rep k F (.ref b) d) (rv : Rep k F v e) : ∀ {kas : List (NestedKey × Addr × V)} {kvs : List (D × D)}, RepN k F kas kvs → RepN k F (putN kas x b v) (dPut kvs d e)
  | _, _, .nil => .cons n rb rv .nil
  | _, _, .cons (x := y) (d := a) m ra rw' t => by
    unfold putN dPut
    rw [dEq_nk m n]
    by_cases g : y = x
    · rw [if_pos g, if_pos (by simpa using g)]
      exact .cons m ra rv t
    · rw [if_neg g, if_neg (by simpa using g)]
      exact .cons m ra rw' (putN_rep n rb rv t)
theorem map_putAt {x : NestedKey} {u : Value} : ∀ {xs : List (NestedKey × Addr × Value)}, x ∉ xs.map (·.1) → xs.map (putAt x u) = xs
  | [], _ => rfl
  | q :: xs, h => by
    simp only [List.map_cons, List.mem_cons, not_or] at h
    rw [List.map_cons, map_putAt h.2]
    unfold putAt
    rw [if_neg (fun z => h.1 z.symm)]
theorem putN_pair {x : NestedKey} {b : Addr} {v : V} {u : Value} (rv : RelV v u) : ∀ {kas : List (NestedKey × Addr × V)} {xs : List (NestedKey × Addr × Value)}, Paired NP kas xs → (xs.map (·.1)).Nodup → Paired NP (putN kas x b v) (storedH xs x b u)
  | _, _, .nil, _ => .cons ⟨rfl, rfl, rv⟩ .nil
  | _, _, .cons (a := p) (b := q) (l₁ := kas) (l₂ := xs) ⟨p1, p2, p3⟩ w, hn => by
    obtain ⟨y, c, z⟩ := p
    obtain ⟨y', c', z'⟩ := q
    have p1 : y = y' := p1
    subst p1
    simp only [List.map_cons, List.nodup_cons] at hn
    unfold putN
    by_cases g : y = x
    · subst g
      rw [if_pos rfl]
      have e : storedH ((y, c', z') :: xs) y b u = (y, c', u) :: xs := by
        rw [storedH_old (p := (c', z')) (by unfold atKey; rw [List.find?_cons_of_pos (by simp)]; rfl)]
        rw [List.map_cons, map_putAt hn.1]
        unfold putAt
        rw [if_pos rfl]
      rw [e]
      exact .cons ⟨rfl, p2, rv⟩ w
    · rw [if_neg g]
      have e : storedH ((y, c', z') :: xs) x b u = (y, c', z') :: storedH xs x b u := by
        have e1 : atKey ((y, c', z') :: xs) x = atKey xs x := by
          unfold atKey
          rw [List.find?_cons_of_neg (by simpa using g)]
        unfold storedH
        rw [e1]
        split
        · rw [List.map_cons]
          have : putAt x u (y, c', z') = (y, c', z') := by unfold putAt; rw [if_neg g]
          rw [this]
        · rfl
      rw [e]
      exact .cons ⟨rfl, p2, p3⟩ (putN_pair rv w hn.2)
end
/-! ### the operations -/
section
variable {k : Kx} {X : Cx}
theorem roomN {A : Around} (h : A.units + 65 < cLine) (prog : Program) (w : World) : (nestedKind prog w).room A.in1 := by
  show A.in1.units + 8 < cLine
  have : A.in1.units = A.units + 1 := rfl
  omega
/-- a lookup -/
def LookN (k : Kx) (H : Hp) (v w : V) (d : D) (kvs : List (D × D)) : Prop := ∃ F p kas x, Same F H ∧ v = .ref p ∧ H p = some (nestO k.w p kas) ∧ RepN k F kas kvs ∧ Rep k F w d ∧ nkT d = some x
def rInN (k : Kx) : R2 := fun w v H Q => ∃ kvs d, LookN k H v w d kvs ∧ Q (.bl (dLook kvs d).isSome) H
def rNotInN (k : Kx) : R2 := fun w v H Q => ∃ kvs d, LookN k H v w d kvs ∧ Q (.bl (!(dLook kvs d).isSome)) H
def rIxN (k : Kx) : R2 := fun v w H Q => ∃ kvs d e, LookN k H v w d kvs ∧ dLook kvs d = some e ∧ ∀ F z, (∃ kas p, H p = some (nestO k.w p kas) ∧ RepN k F kas kvs) → Same F H → Rep k F z e → Q z H
theorem op_inN (hK : X.K = k.K) (hw : X.w = k.w) (hu : X.A.units + 65 < cLine) : OpR X (compareOp .In) (rInN k) := by
  intro pins s σ H x y v u Q I rx ry ⟨kvs, d, ⟨F, p, kas, n, fh, e0, h1, h2, h3, h4⟩, q⟩
  subst e0
  obtain ⟨b, rfl, h5, h6⟩ := nkT_is I hK fh h3 h4
  cases (show _ = _ from rx)
  cases (show _ = _ from ry)
  obtain ⟨z, hd, xs, pr, dd⟩ := dict_of I hK hw fh h1 h2
  refine wpAny_in_heap (roomN hu _ _) ⟨h5, h6⟩ hd dd ?_
  rcases look_of h2 pr h4 with ⟨e1, e2⟩ | ⟨e, v, b, u, e1, e2, _⟩
  · rw [e2]; rw [e1] at q; exact ⟨.bl _, _, I.tok _, rfl, q⟩
  · rw [e2]; rw [e1] at q; exact ⟨.bl _, _, I.tok _, rfl, q⟩
theorem op_notInN (hK : X.K = k.K) (hw : X.w = k.w) (hu : X.A.units + 65 < cLine) : OpR X (compareOp .NotIn) (rNotInN k) := by
  intro pins s σ H x y v u Q I rx ry ⟨kvs, d, ⟨F, p, kas, n, fh, e0, h1, h2, h3, h4⟩, q⟩
  subst e0
  obtain ⟨b, rfl, h5, h6⟩ := nkT_is I hK fh h3 h4
  cases (show _ = _ from rx)
  cases (show _ = _ from ry)
  obtain ⟨z, hd, xs, pr, dd⟩ := dict_of I hK hw fh h1 h2
  refine wpAny_notIn_heap (roomN hu _ _) ⟨h5, h6⟩ hd dd ?_
  rcases look_of h2 pr h4 with ⟨e1, e2⟩ | ⟨e, v, b, u, e1, e2, _⟩
  · rw [e2]; rw [e1] at q; exact ⟨.bl _, _, I.tok _, rfl, q⟩
  · rw [e2]; rw [e1] at q; exact ⟨.bl _, _, I.tok _, rfl, q⟩
def rIxN' (k : Kx) : R2 := fun v w H Q => ∃ F p kas kvs d x e, Same F H ∧ v = .ref p ∧ H p = some (nestO k.w p kas) ∧ RepN k F kas kvs ∧ Rep k F w d ∧ nkT d = some x ∧ dLook kvs d = some e ∧ ∀ z, Rep k F z e → Q z H
theorem ix_N (hK : X.K = k.K) (hw : X.w = k.w) (hu : X.A.units + 65 < cLine) : IxR X (rIxN' k) := by
  intro value slice pins s σ H x y v u Q I rx ry ⟨F, p, kas, kvs, d, n, e, fh, e0, h1, h2, h3, h4, h5, q⟩ hs
  subst e0
  obtain ⟨b, rfl, h6, h7⟩ := nkT_is I hK fh h3 h4
  cases (show _ = _ from rx)
  cases (show _ = _ from ry)
  obtain ⟨z, hd, xs, pr, dd⟩ := dict_of I hK hw fh h1 h2
  rcases look_of h2 pr h4 with ⟨e1, e2⟩ | ⟨e', v, b', u, e1, e2, e3, e4⟩
  · rw [e1] at h5; cases h5
  · rw [e1] at h5
    cases h5
    exact tail_any dd.typeIs slot_dict_getitem.lookup (wpAny_getItem_heap (roomN hu _ _) ⟨h6, h7⟩ dd e2 ⟨v, _, I.tok _, e3, q v e4⟩) hs
def rSetN (k : Kx) : TSet := fun o i v H Q => ∃ F p kas kvs d e x b, Same F H ∧ o = .ref p ∧ H p = some (nestO k.w p kas) ∧ RepN k F kas kvs ∧ i = .ref b ∧ Rep k F i d ∧ nkT d = some x ∧ kas.length < sizeLine ∧ Rep k F v e ∧ Q (upd H p (nestO k.w p (putN kas x b v)))
theorem nest_ok {P : Program} {w : World} {H : Hp} {h : Heap} {a : Addr} {kas : List (NestedKey × Addr × V)} {xs : List (NestedKey × Addr × Value)} (h1 : kas.length ≤ sizeLine) (h2 : (a == sysModules) = false) (pr : Paired NP kas xs) (dd : h.DictOfH (nestedKind P w) a xs) : ObjOk P w H h a (nestO w a kas) := by
  obtain ⟨o, es, ep, h4, h5, h6, h7, _, h8⟩ := dd
  refine ⟨⟨h1, h2, xs, pr, o, es, ep, h4, h5, h6, h7, h8⟩, ⟨o, h4⟩, ?_⟩
  rintro g1 g2 ⟨i1, i2, ys, i3, o', es', ep', i4, i5, i6, i7, i8⟩ st
  exact ⟨i1, i2, ys, i3, o', es', ep', st _ i4, i5, i6, i7, i8⟩
theorem set_N (hK : X.K = k.K) (hw : X.w = k.w) (hu : X.A.units + 65 < cLine) : PSet X (rSetN k) := by
  intro pins s σ H o i v ov iv u Q I ro ri rv ⟨F, p, kas, kvs, d, e, x, b, fh, e0, h1, h2, e00, h3, h4, h5, h6, q⟩
  subst e0 e00
  obtain ⟨b', eb, h7, h8⟩ := nkT_is I hK fh h3 h4
  cases eb
  cases (show _ = _ from ro)
  cases (show _ = _ from ri)
  obtain ⟨z, hd, xs, pr, dd⟩ := dict_of I hK hw fh h1 h2
  have nd : (xs.map (·.1)).Nodup := by obtain ⟨_, _, _, _, _, _, _, _, h⟩ := dd; exact h
  have hl := Paired.length pr
  refine wpAny_setItem_heap (hsz := by omega) (roomN hu _ _) ⟨h7, h8⟩ dd fun h' dd' hs => ?_
  have he : ∃ q, h'.get? p = some q := let ⟨q, _, _, hq, _⟩ := dd'; ⟨q, hq⟩
  refine ⟨_, d_write I (by rw [h1]; exact True.intro) hs he ?_, q⟩
  rw [← hw]
  exact nest_ok (Nat.le_trans (putN_len _ _ _ _) h5) hd (putN_pair rv pr nd) dd'
/-- {} -/
theorem pe_dict0 {pos : Pos} (hw : X.w = k.w) : PE X (.Dict [] [] pos) (fun _ H Q => ∀ p, H p = none → Q (.ref p) (upd H p (nestO k.w p []))) := ⟨fun pins s σ H Q I h =>
  wpAny_Dict_empty ⟨.ref s.heap.objs.size, _, I.laid (a := s.heap.objs.size) (o := nestO k.w s.heap.objs.size []) (t' := s.toks) (fun _ _ q => Heap.get?_push_of_some _ q) (Nat.le_refl _)
    (nest_ok (H := upd H s.heap.objs.size (nestO k.w s.heap.objs.size [])) (xs := []) (Nat.zero_le _) (beq_eq_false_iff_ne.mpr (Ne.symm (Nat.ne_of_lt I.big))) .nil (by rw [← hw]; exact (Heap.DictOfH.new (knd := nestedKind X.prog X.w) s.heap))), rfl, h _ (I.hok.fresh (Nat.le_refl _))⟩⟩
end
end Ev
set_option maxHeartbeats 4000000
/-! EvOps: what operations do on values that stand for trees. -/
namespace Ev
open PySem PySem.Spec PyProof.Rows L2
/-- sealed, or a slot's own, read -/
def RepB (k : Kx) (F H : Hp) (s : St) (v : V) (d : D) : Prop := Rep k F v d ∨ ∃ p o, v = .ref p ∧ H p = some o ∧ Own k F p d o ∧ F p = none ∧ ¬ Mx k s p
/-- a new list, a new dict, not yet sealed, or sealed -/
def RepF (k : Kx) (H F' H' : Hp) (v : V) (d : D) : Prop := if ownB d = true then ∃ p o, v = .ref p ∧ nt H p = none ∧ F' p = none ∧ H' p = some o ∧ Own k F' p d o else Rep k F' v d
section
variable {k : Kx} {F H F' H' F1 H1 : Hp} {s s' s1 : St} {v : V} {d : D}
theorem RepF.lst {p : Addr} {xs : List V} {ds : List D} (h1 : nt H p = none) (h2 : F' p = none) (h3 : H' p = some (.lst xs)) (h4 : Reps k F' xs ds) : RepF k H F' H' (.ref p) (.lst ds) := ⟨p, _, rfl, h1, h2, h3, xs, rfl, h4⟩
theorem RepF.no (n : ownB d = false) (r : Rep k F' v d) : RepF k H F' H' v d := by
  unfold RepF
  rw [if_neg (by rw [n]; exact Bool.false_ne_true)]
  exact r
theorem RepF.sc (n : ownB d = false) (r : RepF k H F' H' v d) : Rep k F' v d := by
  unfold RepF at r
  rw [if_neg (by rw [n]; exact Bool.false_ne_true)] at r
  exact r
theorem RepB.own (fh : Same F H) (h : RepB k F H s v d) (o : ownB d = true) : ∃ p u, v = .ref p ∧ H p = some u ∧ Own k F p d u := by
  rcases h with h | ⟨p, u, e1, e3, e4, _⟩
  · obtain ⟨a, u, e1, e2, e3⟩ := h.own o
    exact ⟨a, u, e1, fh _ _ e2, e3⟩
  · exact ⟨p, u, e1, e3, e4⟩
theorem RepB.lst {ds : List D} (fh : Same F H) (h : RepB k F H s v (.lst ds)) : ∃ p xs, v = .ref p ∧ H p = some (.lst xs) ∧ Reps k F xs ds := by
  obtain ⟨p, u, e1, e2, xs, rfl, e3⟩ := h.own fh rfl
  exact ⟨p, xs, e1, e2, e3⟩
theorem RepB.dct {kvs : List (D × D)} (fh : Same F H) (h : RepB k F H s v (.dct kvs)) : ∃ p kas, v = .ref p ∧ H p = some (nestO k.w p kas) ∧ RepN k F kas kvs := by
  obtain ⟨p, u, e1, e2, xs, rfl, e3⟩ := h.own fh rfl
  exact ⟨p, xs, e1, e2, e3⟩
theorem RepB.rep (h : RepB k F H s v d) (n : ownB d = false) : Rep k F v d := by
  rcases h with h | ⟨p, xs, e1, e2, e3, _⟩
  · exact h
  · rw [e3.own] at n; cases n
theorem RepB.ext (E : Ext k F H s F' H' s') (h : RepB k F H s v d) : RepB k F' H' s' v d := by
  rcases h with h | ⟨p, u, e1, e3, e4, e5, e6⟩
  · exact .inl (Rep.mono E.ff h)
  · exact .inr ⟨p, u, e1, E.hh p _ e3 e6 e4.plain.2, Own.mono E.ff e4, E.nf p (by rw [nt_some e3 e4.plain.2]; simp) e5, fun m => e6 ((Mx.iff E.st).mp m)⟩
theorem Rep.bor (h : Rep k F v d) : RepB k F H s v d := .inl h
/-- a new sealed object -/
theorem Ext.newS {p : Addr} {o : HO} (fh : Same F H) (hd : HandOk k F H s) (n : H p = none) (z : NT o := by first | (intro ps z; cases z; done) | assumption) : Ext k F H s (upd F p o) (upd H p o) s :=
  (Ext.new fh hd n).lock (nt_none n) upd_same (fun m => (hd.at m).2 n) (by
    cases q : F p with
    | none => rfl
    | some u => rw [fh p u q] at n; cases n)
theorem Ext.fn (fh : Same F H) {p : Addr} (n : H p = none) : F p = none := by
  cases q : F p with
  | none => rfl
  | some u => rw [fh p u q] at n; cases n
/-- sealing a new thing -/
theorem RepF.sealed (hd : HandOk k F H s) (E : Ext k F H s F' H' s') (h : RepF k H F' H' v d) : ∃ F'', Ext k F H s F'' H' s' ∧ Rep k F'' v d := by
  cases ho : ownB d with
  | true =>
    unfold RepF at h
    rw [if_pos ho] at h
    obtain ⟨p, o, rfl, h1, h2, h3, h4⟩ := h
    have nm : ¬ Mx k s' p := hd.nmx E.hand E.st h1 h3 h4.plain.2
    refine ⟨_, E.lock h1 h3 nm h2 h4.plain.2, Own.rep (Own.mono (fun b u e => ?_) h4) upd_same⟩
    rw [upd_ne (ne_of_none e h2)]
    exact e
  | false => exact ⟨F', E, h.sc ho⟩
end
/-- a two-place operation on trees as a reading -/
def rD2 (k : Kx) (f : D → D → Option D) : R2 := fun v w H Q => ∃ F s x y d, Same F H ∧ HandOk k F H s ∧ RepB k F H s v x ∧ RepB k F H s w y ∧ f x y = some d ∧ ∀ v' F' H', Ext k F H s F' H' s → RepF k H F' H' v' d → Q v' H'
/-- the answer is a scalar -/
theorem out0 {k : Kx} {F H : Hp} {s : St} {Q : VK} {v : V} {d : D} (fh : Same F H) (hd : HandOk k F H s) (h : ∀ v' F' H', Ext k F H s F' H' s → RepF k H F' H' v' d → Q v' H') (r : Rep k F v d) (n : ownB d = false) : Q v H :=
  h v F H (Ext.refl fh hd) (RepF.no n r)
/-- the answer is a new list | tuple -/
theorem outL {k : Kx} {F H : Hp} {s : St} {Q : VK} {xs : List V} {ds : List D} (fh : Same F H) (hd : HandOk k F H s) (h : ∀ v' F' H', Ext k F H s F' H' s → RepF k H F' H' v' (.lst ds) → Q v' H') (r : Reps k F xs ds) {p : Addr} (n : H p = none) : Q (.ref p) (upd H p (.lst xs)) :=
  h _ _ _ (Ext.new fh hd n) (RepF.lst (nt_none n) (Ext.fn fh n) upd_same r)
theorem outT {k : Kx} {F H : Hp} {s : St} {Q : VK} {xs : List V} {ds : List D} (fh : Same F H) (hd : HandOk k F H s) (h : ∀ v' F' H', Ext k F H s F' H' s → RepF k H F' H' v' (.tup ds) → Q v' H') (r : Reps k F xs ds) {p : Addr} (n : H p = none) : Q (.ref p) (upd H p (.tup xs)) :=
  h _ _ _ (Ext.newS fh hd n) (RepF.no rfl <| .tup (SqT.of upd_same) (Reps.mono (fun b u e => by rw [upd_ne (ne_of_none e (Ext.fn fh n))]; exact e) r))
theorem lim_line {n : Nat} (h : n ≤ lim) : n ≤ sizeLine := Nat.le_trans h (by decide)
theorem guardD_some {b : Bool} {d e : D} (h : guardD b d = some e) : b = true ∧ d = e := by
  unfold guardD at h
  split at h
  · cases h; exact ⟨by assumption, rfl⟩
  · cases h
section
variable {k : Kx} {X : Cx}
theorem rep_int {F : Hp} {v : V} {i : Int} (h : Rep k F v (.int i)) : v = .int i := by cases h; rfl
theorem rep_bl {F : Hp} {v : V} {i : Bool} (h : Rep k F v (.bl i)) : v = .bl i := by cases h; rfl
theorem rep_str {F : Hp} {v : V} {i : Str} (h : Rep k F v (.str i)) : v = .str i := by cases h; rfl
theorem rep_non {F : Hp} {v : V} (h : Rep k F v .non) : v = .non := by cases h; rfl
theorem rep_tup {F : Hp} {v : V} {ds : List D} (h : Rep k F v (.tup ds)) : ∃ a xs, v = .ref a ∧ SqT k.K F a xs ∧ Reps k F xs ds := by cases h with | tup h r => exact ⟨_, _, rfl, h, r⟩
theorem repB_int {F H : Hp} {s : St} {v : V} {i : Int} (h : RepB k F H s v (.int i)) : v = .int i := rep_int (h.rep rfl)
theorem repB_bl {F H : Hp} {s : St} {v : V} {i : Bool} (h : RepB k F H s v (.bl i)) : v = .bl i := rep_bl (h.rep rfl)
theorem repB_str {F H : Hp} {s : St} {v : V} {i : Str} (h : RepB k F H s v (.str i)) : v = .str i := rep_str (h.rep rfl)
theorem repB_non {F H : Hp} {s : St} {v : V} (h : RepB k F H s v .non) : v = .non := rep_non (h.rep rfl)
theorem repB_tup {F H : Hp} {s : St} {v : V} {ds : List D} (h : RepB k F H s v (.tup ds)) : ∃ a xs, v = .ref a ∧ SqT k.K F a xs ∧ Reps k F xs ds := rep_tup (h.rep rfl)
theorem op_of {X : Cx} {f : Value → Value → Sem Value} {r r' : R2} (o : OpR X f r) (h : ∀ x y H Q, r' x y H Q → r x y H Q) : OpR X f r' := fun pins s σ H x y v u Q I rx ry q => o pins s σ H x y v u Q I rx ry (h x y H Q q)
theorem bin_add (hK : X.K = k.K) : OpR X (binaryOp .Add) (rD2 k (binD .add)) := by
  refine op_of (OpR.or op_add (OpR.or op_cat (OpR.or op_catA op_add_str))) fun x y H Q ⟨F, s, a, b, d, fh, hd, ra, rb, e, h⟩ => ?_
  cases a <;> cases b <;> first | (cases e; done) | skip
  case int.int i j =>
    cases e
    rw [repB_int ra, repB_int rb]
    exact .inl ⟨i, j, rfl, rfl, out0 fh hd h (.int _) rfl⟩
  case str.str i j =>
    obtain ⟨g, rfl⟩ := guardD_some e
    rw [repB_str ra, repB_str rb]
    exact .inr (.inr (.inr ⟨i, j, rfl, rfl, lim_line (of_decide_eq_true g), out0 fh hd h (.str _) rfl⟩))
  case lst.lst xs ys =>
    obtain ⟨g, rfl⟩ := guardD_some e
    obtain ⟨p, us, rfl, h1, r1⟩ := ra.lst fh
    obtain ⟨q, ws, rfl, h2, r2⟩ := rb.lst fh
    exact .inr (.inl ⟨p, q, us, ws, rfl, rfl, h1, h2, lim_line (by rw [r1.length, r2.length]; exact of_decide_eq_true g), fun p n => outL fh hd h (r1.append r2) n⟩)
  case tup.tup xs ys =>
    obtain ⟨g, rfl⟩ := guardD_some e
    obtain ⟨p, us, rfl, h1, r1⟩ := repB_tup ra
    obtain ⟨q, ws, rfl, h2, r2⟩ := repB_tup rb
    refine .inr (.inr (.inl ⟨p, q, us, ws, rfl, rfl, by rw [hK]; exact sameT fh h1, by rw [hK]; exact sameT fh h2, lim_line (by rw [r1.length, r2.length]; exact of_decide_eq_true g), fun e => ?_, fun _ e => ?_, fun _ _ p n => outT fh hd h (r1.append r2) n⟩))
    · subst e
      cases r1
      exact out0 fh hd h (.tup h2 r2) rfl
    · subst e
      cases r2
      rw [List.append_nil] at h
      exact out0 fh hd h (.tup h1 r1) rfl
theorem bin_sub : OpR X (binaryOp .Sub) (rD2 k (binD .sub)) := by
  refine op_of op_sub fun x y H Q ⟨F, s, a, b, d, fh, hd, ra, rb, e, h⟩ => ?_
  cases a <;> cases b <;> first | (cases e; done) | skip
  case int.int i j =>
    cases e
    rw [repB_int ra, repB_int rb]
    exact ⟨i, j, rfl, rfl, out0 fh hd h (.int _) rfl⟩
theorem bin_mul (hK : X.K = k.K) : OpR X (binaryOp .Mult) (rD2 k (binD .mul)) := by
  refine op_of (OpR.or op_mulW (OpR.or op_rep op_repT)) fun x y H Q ⟨F, s, a, b, d, fh, hd, ra, rb, e, h⟩ => ?_
  cases a <;> cases b <;> first | (cases e; done) | skip
  case int.int i j =>
    obtain ⟨g, rfl⟩ := guardD_some e
    rw [repB_int ra, repB_int rb]
    exact .inl ⟨i, j, rfl, rfl, (show i.natAbs.log2 + j.natAbs.log2 < 1000000 from of_decide_eq_true g), out0 fh hd h (.int _) rfl⟩
  case lst.int xs i =>
    obtain ⟨g, rfl⟩ := guardD_some e
    simp only [Bool.and_eq_true, decide_eq_true_eq] at g
    obtain ⟨⟨g1, g2⟩, g3⟩ := g
    obtain ⟨p, us, rfl, h1, r1⟩ := ra.lst fh
    rw [repB_int rb]
    exact .inr (.inl ⟨p, i, us, rfl, rfl, h1, by omega, by omega, lim_line (by rw [r1.length]; exact g3), fun p n => outL fh hd h (r1.rep _) n⟩)
  case tup.int xs i =>
    obtain ⟨g, rfl⟩ := guardD_some e
    simp only [Bool.and_eq_true, decide_eq_true_eq] at g
    obtain ⟨⟨⟨g1, g2⟩, g3⟩, g4⟩ := g
    obtain ⟨p, us, rfl, h1, r1⟩ := repB_tup ra
    rw [repB_int rb]
    refine .inr (.inr ⟨p, i, us, rfl, rfl, by rw [hK]; exact sameT fh h1, fun q => ?_, g1, g2, by rw [r1.length]; exact g4, fun p n => outT fh hd h (r1.rep _) n⟩)
    subst q
    cases r1
    exact g3 rfl
theorem bin_fdiv : OpR X (binaryOp .FloorDiv) (rD2 k (binD .fdiv)) := by
  refine op_of (OpR.or op_fdivN op_fdivW) fun x y H Q ⟨F, s, a, b, d, fh, hd, ra, rb, e, h⟩ => ?_
  cases a <;> cases b <;> first | (cases e; done) | skip
  case int.int i j =>
    obtain ⟨g, rfl⟩ := guardD_some e
    rw [repB_int ra, repB_int rb]
    unfold divG at g
    simp only [Bool.and_eq_true, Bool.or_eq_true, decide_eq_true_eq] at g
    obtain ⟨g0, g | ⟨g1, g2⟩⟩ := g
    · exact .inl ⟨i, j, rfl, rfl, ⟨g0, g⟩, out0 fh hd h (.int _) rfl⟩
    · rw [Int.fdiv_eq_ediv_of_nonneg i (Int.le_of_lt g1)] at h
      exact .inr ⟨i, j, rfl, rfl, ⟨g1, g2⟩, out0 fh hd h (.int _) rfl⟩
theorem bin_mod : OpR X (binaryOp .Mod) (rD2 k (binD .mod)) := by
  refine op_of op_modN fun x y H Q ⟨F, s, a, b, d, fh, hd, ra, rb, e, h⟩ => ?_
  cases a <;> cases b <;> first | (cases e; done) | skip
  case int.int i j =>
    obtain ⟨g, rfl⟩ := guardD_some e
    rw [repB_int ra, repB_int rb]
    exact ⟨i, j, rfl, rfl, of_decide_eq_true g, out0 fh hd h (.int _) rfl⟩
theorem bin_pow : OpR X (binaryOp .Pow) (rD2 k (binD .pow)) := by
  refine op_of op_pow fun x y H Q ⟨F, s, a, b, d, fh, hd, ra, rb, e, h⟩ => ?_
  cases a <;> cases b <;> first | (cases e; done) | skip
  case int.int i j =>
    obtain ⟨g, rfl⟩ := guardD_some e
    rw [repB_int ra, repB_int rb]
    unfold powG at g
    simp only [Bool.and_eq_true, decide_eq_true_eq] at g
    exact ⟨i, j, rfl, rfl, ⟨g.1.1, g.1.2, g.2⟩, out0 fh hd h (.int _) rfl⟩
def bopOf : Bop → Operator
  | .add => .Add | .sub => .Sub | .mul => .Mult | .fdiv => .FloorDiv | .mod => .Mod | .pow => .Pow
theorem bin_ok (hK : X.K = k.K) (o : Bop) : OpR X (binaryOp (bopOf o)) (rD2 k (binD o)) := by
  cases o with
  | add => exact bin_add hK
  | sub => exact bin_sub
  | mul => exact bin_mul hK
  | fdiv => exact bin_fdiv
  | mod => exact bin_mod
  | pow => exact bin_pow
end
/-! ### comparisons -/
mutual
/-- a tree as the model's data -/
def py : D → PyData
  | .non => .none
  | .bl b => .bool b
  | .int i => .int i
  | .str x => .str x
  | .tup ds => .tuple (pys ds)
  | .lst ds => .list (pys ds)
  | _ => .none
def pys : List D → List PyData
  | [] => []
  | d :: ds => py d :: pys ds
end
mutual
theorem plain_py : ∀ (d : D) (n : Nat), D.plain d n = true → (py d).canLay0 = true ∧ (py d).depth ≤ n
  | .non, _, _ => ⟨rfl, Nat.zero_le _⟩
  | .bl _, _, _ => ⟨rfl, Nat.zero_le _⟩
  | .int _, _, _ => ⟨rfl, Nat.zero_le _⟩
  | .str x, n, h => ⟨by simp only [py, PyData.canLay0]; cases n <;> exact h, Nat.zero_le _⟩
  | .tup ds, n + 1, h => by
    have q := plain_pys ds n h
    exact ⟨by simpa only [py, PyData.canLay0] using q.1, by simp only [py, PyData.depth]; have := q.2; omega⟩
  | .lst ds, n + 1, h => by
    have q := plain_pys ds n h
    exact ⟨by simpa only [py, PyData.canLay0] using q.1, by simp only [py, PyData.depth]; have := q.2; omega⟩
  | .tup _, 0, h => by cases h
  | .lst _, 0, h => by cases h
  | .dct _, n, h => by cases n <;> cases h
  | .obj _ _, n, h => by cases n <;> cases h
  | .fn _, n, h => by cases n <;> cases h
  | .hand, n, h => by cases n <;> cases h
theorem plain_pys : ∀ (ds : List D) (n : Nat), D.plains ds n = true → PyData.canLayAll0 (pys ds) = true ∧ PyData.depthAll (pys ds) ≤ n
  | [], _, _ => ⟨rfl, Nat.zero_le _⟩
  | d :: ds, n, h => by
    have h' : D.plain d n = true ∧ D.plains ds n = true := by simpa only [D.plains, Bool.and_eq_true] using h
    have q1 := plain_py d n h'.1
    have q2 := plain_pys ds n h'.2
    exact ⟨by simp only [pys, PyData.canLayAll0, q1.1, q2.1, Bool.and_self], by simp only [pys, PyData.depthAll]; have := q1.2; have := q2.2; omega⟩
end
theorem plain_shaped {d : D} (h : D.plain d 64 = true) : SeqAt.shaped (py d) = true := by
  have q := plain_py d 64 h
  unfold SeqAt.shaped
  rw [q.1, Bool.true_and]
  exact decide_eq_true q.2
section
variable {k : Kx} {F H : Hp}
mutual
theorem Rep.dp (fh : Same F H) : ∀ {v : V} {d : D} {n : Nat}, Rep k F v d → D.plain d n = true → Dp k.K H v (py d)
  | _, _, _, .non, _ => .non
  | _, _, _, .bl b, _ => .bl b
  | _, _, _, .int i, _ => .int i
  | _, _, _, .str x, _ => .str x
  | _, .tup ds, n + 1, .tup h r, p => by simp only [py]; exact .tup (sameT fh h) (Reps.dp fh (n := n) r p)
  | _, .lst ds, n + 1, .lst h r, p => by simp only [py]; exact .lst (SqL.of (fh _ _ h)) (Reps.dp fh (n := n) r p)
  | _, .tup _, 0, .tup _ _, p => by cases p
  | _, .lst _, 0, .lst _ _, p => by cases p
  | _, .obj _ _, n, .obj _ _ _ _, p => by cases n <;> cases p
  | _, .fn _, n, .fn _, p => by cases n <;> cases p
  | _, .hand, n, .hand, p => by cases n <;> cases p
theorem Reps.dp (fh : Same F H) : ∀ {vs : List V} {ds : List D} {n : Nat}, Reps k F vs ds → D.plains ds n = true → DpAll k.K H vs (pys ds)
  | _, _, _, .nil, _ => .nil
  | _, d :: ds, n, .cons r t, p => by
    have h' : D.plain d n = true ∧ D.plains ds n = true := by simpa only [D.plains, Bool.and_eq_true] using p
    simp only [pys]
    exact .cons (Rep.dp fh r h'.1) (Reps.dp fh t h'.2)
end
theorem RepB.dp {s : St} (fh : Same F H) {v : V} {d : D} (h : RepB k F H s v d) (p : D.plain d 64 = true) : Dp k.K H v (py d) := by
  rcases h with h | ⟨a, o, rfl, e3, e4, _⟩
  · exact h.dp fh p
  · cases d <;> first | exact e4.elim | skip
    case lst ds =>
      obtain ⟨xs, rfl, e4⟩ := e4
      simp only [py]
      exact .lst (SqL.of e3) (e4.dp fh (n := 63) p)
    case dct => cases p
end
mutual
theorem eq_py : ∀ (x y : D) (n : Nat) (b : Bool), D.plain x n = true → D.plain y n = true → D.eq x y = some b → PyData.eqv (py x) (py y) = b
  | .non, y, n, b, _, hy, h => by cases y <;> simp_all [D.eq, py, PyData.eqv]
  | .bl a, y, n, b, _, hy, h => by cases y <;> simp_all [D.eq, py, PyData.eqv]
  | .int a, y, n, b, _, hy, h => by cases y <;> simp_all [D.eq, py, PyData.eqv]
  | .str a, y, n, b, _, hy, h => by cases y <;> simp_all [D.eq, py, PyData.eqv]
  | .tup xs, y, 0, b, hx, hy, h => by cases hx
  | .lst xs, y, 0, b, hx, hy, h => by cases hx
  | .tup xs, y, n + 1, b, hx, hy, h => by
    cases y with
    | tup ys =>
      simp only [D.eq] at h
      simp only [py, PyData.eqv]
      exact eqs_py xs ys n b hx hy h
    | _ => simp_all [D.eq, py, PyData.eqv]
  | .lst xs, y, n + 1, b, hx, hy, h => by
    cases y with
    | lst ys =>
      simp only [D.eq] at h
      simp only [py, PyData.eqv]
      exact eqs_py xs ys n b hx hy h
    | _ => simp_all [D.eq, py, PyData.eqv]
  | .dct _, y, n, b, hx, _, h => by cases n <;> cases hx
  | .obj _ _, y, n, b, hx, _, h => by cases n <;> cases hx
  | .fn _, y, n, b, hx, _, h => by cases n <;> cases hx
  | .hand, y, n, b, hx, _, h => by cases n <;> cases hx
theorem eqs_py : ∀ (xs ys : List D) (n : Nat) (b : Bool), D.plains xs n = true → D.plains ys n = true → D.eqs xs ys = some b → PyData.eqvAll (pys xs) (pys ys) = b
  | [], [], _, b, _, _, h => by simp_all [D.eqs, pys, PyData.eqvAll]
  | [], _ :: _, _, b, _, _, h => by simp_all [D.eqs, pys, PyData.eqvAll]
  | _ :: _, [], _, b, _, _, h => by simp_all [D.eqs, pys, PyData.eqvAll]
  | x :: xs, y :: ys, n, b, hx, hy, h => by
    have hx' : D.plain x n = true ∧ D.plains xs n = true := by simpa only [D.plains, Bool.and_eq_true] using hx
    have hy' : D.plain y n = true ∧ D.plains ys n = true := by simpa only [D.plains, Bool.and_eq_true] using hy
    simp only [D.eqs] at h
    cases e1 : D.eq x y with
    | none => rw [e1] at h; simp at h
    | some c =>
      cases e2 : D.eqs xs ys with
      | none => rw [e1, e2] at h; simp at h
      | some c2 =>
        rw [e1, e2] at h
        simp only [Option.some.injEq] at h
        subst h
        simp only [pys, PyData.eqvAll, eq_py x y n c hx'.1 hy'.1 e1, eqs_py xs ys n c2 hx'.2 hy'.2 e2]
end
theorem eqD_plain {x y : D} {b : Bool} (h : eqD x y = some b) : D.plain x 64 = true ∧ D.plain y 64 = true ∧ PyData.eqv (py x) (py y) = b := by
  unfold eqD at h
  split at h
  · rename_i g
    have g' := Bool.and_eq_true_iff.mp g
    exact ⟨g'.1, g'.2, eq_py x y 64 b g'.1 g'.2 h⟩
  · cases h
theorem inD_py {x : D} : ∀ {ys : List D} {b : Bool}, D.plain x 64 = true → D.plains ys 63 = true → inD x ys = some b → ((pys ys).any fun z => PyData.eqv z (py x)) = b
  | [], b, _, _, h => by cases h; rfl
  | y :: ys, b, hx, hy, h => by
    have hy' : D.plain y 63 = true ∧ D.plains ys 63 = true := by simpa only [D.plains, Bool.and_eq_true] using hy
    unfold inD at h
    cases e : eqD y x with
    | none => rw [e] at h; cases h
    | some c =>
      rw [e] at h
      have q := (eqD_plain e).2.2
      cases c with
      | true =>
        cases h
        simp only [pys, List.any_cons, q, Bool.true_or]
      | false =>
        simp only [pys, List.any_cons, q, Bool.false_or]
        exact inD_py hx hy'.2 h
section
variable {k : Kx} {X : Cx}
theorem nkT_own {d : D} {x : NestedKey} (h : nkT d = some x) : ownB d = false := by cases d <;> first | rfl | cases h
theorem flat_own {d : D} (h : flatD d = true) : ownB d = false := by cases d <;> first | rfl | cases h
theorem rep_flat {F : Hp} {v : V} {d : D} (h : Rep k F v d) (f : flatD d = true) : flatV v = true := by
  cases h <;> first | rfl | cases f
theorem reps_flat {F : Hp} : ∀ {vs : List V} {ds : List D}, Reps k F vs ds → ds.all flatD = true → vs.all flatV = true
  | _, _, .nil, _ => rfl
  | _, _, .cons r t, f => by
    rw [List.all_cons, Bool.and_eq_true] at f ⊢
    exact ⟨rep_flat r f.1, reps_flat t f.2⟩
theorem eqV_flat {F : Hp} {v w : V} {d e : D} (h : Rep k F v d) (g : Rep k F w e) (f1 : flatD d = true) (f2 : flatD e = true) {b : Bool} (q : eqD d e = some b) : eqV v w = b := by
  unfold eqD at q
  split at q
  · cases h <;> first | (cases f1; done) | skip
    all_goals (cases g <;> first | (cases f2; done) | (simp only [D.eq, Option.some.injEq] at q; subst q; simp [eqV]))
  · cases q
theorem inV_flat {F : Hp} {v : V} {d : D} (h : Rep k F v d) (f : flatD d = true) : ∀ {ws : List V} {es : List D} {b : Bool}, Reps k F ws es → es.all flatD = true → inD d es = some b → inV v ws = b
  | _, _, b, .nil, _, q => by cases q; rfl
  | _, _, b, .cons (v := w) (vs := ws) (d := e) (ds := es) r t, g, q => by
    rw [List.all_cons, Bool.and_eq_true] at g
    unfold inD at q
    show (eqV w v || inV v ws) = b
    cases c : eqD e d with
    | none => rw [c] at q; cases q
    | some c' =>
      rw [c] at q
      rw [eqV_flat r h g.1 f c]
      cases c' with
      | true => cases q; rfl
      | false => rw [Bool.false_or]; exact inV_flat h f t g.2 q
def copOf : Cop → CmpOp
  | .eq => .Eq | .ne => .NotEq | .lt => .Lt | .le => .LtE | .gt => .Gt | .ge => .GtE | .isin => .In | .notin => .NotIn | .is => .Is | .isnot => .IsNot
theorem rep_isnon {F : Hp} {v : V} {d : D} (h : Rep k F v d) : decide (v = .non) = isNon d := by
  cases h <;> rfl
theorem repB_isnon {F H : Hp} {s : St} {v : V} {d : D} (h : RepB k F H s v d) : decide (v = .non) = isNon d := by
  rcases h with h | ⟨_, _, rfl, _, h, _⟩
  · exact rep_isnon h
  · cases d <;> first | rfl | exact h.elim
theorem ifsome {c : Bool} {x : Option D} {d : D} (h : (if c = true then x else none) = some d) : c = true ∧ x = some d := by
  split at h
  · exact ⟨by assumption, h⟩
  · cases h
theorem mapbl {x : Option Bool} {d : D} (h : x.map D.bl = some d) : ∃ b, x = some b ∧ d = .bl b := by
  cases x with
  | none => cases h
  | some b => cases h; exact ⟨b, rfl, rfl⟩
theorem mapnb {x : Option Bool} {d : D} (h : (x.map fun b => D.bl (!b)) = some d) : ∃ b, x = some b ∧ d = .bl (!b) := by
  cases x with
  | none => cases h
  | some b => cases h; exact ⟨b, rfl, rfl⟩
theorem nl_bl {b : Bool} : ownB (D.bl b) = false := rfl
theorem cmp_ok (hK : X.K = k.K) (hw : X.w = k.w) (hu : X.A.units + 65 < cLine) (o : Cop) : OpR X (compareOp (copOf o)) (rD2 k (cmpD o)) := by
  cases o with
  | eq =>
    refine op_of (op_eqD (by omega)) fun x y H Q ⟨F, s, a, b, d, fh, hd, ra, rb, e, h⟩ => ?_
    obtain ⟨c, e1, rfl⟩ := mapbl (show (eqD a b).map D.bl = some d from e)
    obtain ⟨p1, p2, p3⟩ := eqD_plain e1
    rw [hK]
    refine ⟨_, _, ra.dp fh p1, rb.dp fh p2, plain_shaped p1, plain_shaped p2, ?_⟩
    rw [p3]
    exact out0 fh hd h (.bl _) nl_bl
  | ne =>
    refine op_of (op_neD (by omega)) fun x y H Q ⟨F, s, a, b, d, fh, hd, ra, rb, e, h⟩ => ?_
    obtain ⟨c, e1, rfl⟩ := mapnb (show ((eqD a b).map fun b => D.bl (!b)) = some d from e)
    obtain ⟨p1, p2, p3⟩ := eqD_plain e1
    rw [hK]
    refine ⟨_, _, ra.dp fh p1, rb.dp fh p2, plain_shaped p1, plain_shaped p2, ?_⟩
    rw [p3]
    exact out0 fh hd h (.bl _) nl_bl
  | lt =>
    refine op_of op_lt fun x y H Q ⟨F, s, a, b, d, fh, hd, ra, rb, e, h⟩ => ?_
    cases a <;> cases b <;> first | (cases e; done) | skip
    case int.int i j => cases e; rw [repB_int ra, repB_int rb]; exact ⟨i, j, rfl, rfl, out0 fh hd h (.bl _) nl_bl⟩
  | le =>
    refine op_of op_le fun x y H Q ⟨F, s, a, b, d, fh, hd, ra, rb, e, h⟩ => ?_
    cases a <;> cases b <;> first | (cases e; done) | skip
    case int.int i j => cases e; rw [repB_int ra, repB_int rb]; exact ⟨i, j, rfl, rfl, out0 fh hd h (.bl _) nl_bl⟩
  | gt =>
    refine op_of op_gt fun x y H Q ⟨F, s, a, b, d, fh, hd, ra, rb, e, h⟩ => ?_
    cases a <;> cases b <;> first | (cases e; done) | skip
    case int.int i j => cases e; rw [repB_int ra, repB_int rb]; exact ⟨i, j, rfl, rfl, out0 fh hd h (.bl _) nl_bl⟩
  | ge =>
    refine op_of op_ge fun x y H Q ⟨F, s, a, b, d, fh, hd, ra, rb, e, h⟩ => ?_
    cases a <;> cases b <;> first | (cases e; done) | skip
    case int.int i j => cases e; rw [repB_int ra, repB_int rb]; exact ⟨i, j, rfl, rfl, out0 fh hd h (.bl _) nl_bl⟩
  | isin =>
    refine op_of (OpR.or (op_inD hu) (OpR.or op_in_seq (op_inN hK hw hu))) fun x y H Q ⟨F, s, a, b, d, fh, hd, ra, rb, e, h⟩ => ?_
    cases b <;> first | (cases e; done) | skip
    case lst ys =>
      obtain ⟨g, e⟩ := ifsome (c := D.plain a 64 && D.plains ys 63) e
      obtain ⟨c, e1, rfl⟩ := mapbl e
      obtain ⟨g1, g2⟩ := Bool.and_eq_true_iff.mp g
      have p2 : D.plain (.lst ys) 64 = true := g2
      refine .inl ⟨py a, pys ys, by rw [hK]; exact ra.dp fh g1, by rw [hK]; exact rb.dp fh p2, plain_shaped g1, plain_shaped p2, ?_⟩
      rw [inD_py g1 g2 e1]
      exact out0 fh hd h (.bl _) nl_bl
    case tup ys =>
      obtain ⟨g, e⟩ := ifsome (c := flatD a && ys.all flatD) e
      obtain ⟨c, e1, rfl⟩ := mapbl e
      obtain ⟨g1, g2⟩ := Bool.and_eq_true_iff.mp g
      obtain ⟨p, us, rfl, h1, r1⟩ := repB_tup rb
      have ra' := ra.rep (flat_own g1)
      refine .inr (.inl ⟨p, us, rfl, .inr (by rw [hK]; exact sameT fh h1), rep_flat ra' g1, reps_flat r1 g2, ?_⟩)
      rw [inV_flat ra' g1 r1 g2 e1]
      exact out0 fh hd h (.bl _) nl_bl
    case dct kvs =>
      obtain ⟨g, e⟩ := ifsome (c := (nkT a).isSome) e
      cases e
      obtain ⟨x, g⟩ := Option.isSome_iff_exists.mp g
      obtain ⟨p, kas, e1, h1, r1⟩ := rb.dct fh
      have ra' := ra.rep (nkT_own g)
      exact .inr (.inr ⟨kvs, a, ⟨F, p, kas, x, fh, e1, h1, r1, ra', g⟩, out0 fh hd h (.bl _) nl_bl⟩)
  | notin =>
    refine op_of (OpR.or (op_notInD hu) (OpR.or op_notIn_seq (op_notInN hK hw hu))) fun x y H Q ⟨F, s, a, b, d, fh, hd, ra, rb, e, h⟩ => ?_
    cases b <;> first | (cases e; done) | skip
    case lst ys =>
      obtain ⟨g, e⟩ := ifsome (c := D.plain a 64 && D.plains ys 63) e
      obtain ⟨c, e1, rfl⟩ := mapnb e
      obtain ⟨g1, g2⟩ := Bool.and_eq_true_iff.mp g
      have p2 : D.plain (.lst ys) 64 = true := g2
      refine .inl ⟨py a, pys ys, by rw [hK]; exact ra.dp fh g1, by rw [hK]; exact rb.dp fh p2, plain_shaped g1, plain_shaped p2, ?_⟩
      rw [inD_py g1 g2 e1]
      exact out0 fh hd h (.bl _) nl_bl
    case tup ys =>
      obtain ⟨g, e⟩ := ifsome (c := flatD a && ys.all flatD) e
      obtain ⟨c, e1, rfl⟩ := mapnb e
      obtain ⟨g1, g2⟩ := Bool.and_eq_true_iff.mp g
      obtain ⟨p, us, rfl, h1, r1⟩ := repB_tup rb
      have ra' := ra.rep (flat_own g1)
      refine .inr (.inl ⟨p, us, rfl, .inr (by rw [hK]; exact sameT fh h1), rep_flat ra' g1, reps_flat r1 g2, ?_⟩)
      rw [inV_flat ra' g1 r1 g2 e1]
      exact out0 fh hd h (.bl _) nl_bl
    case dct kvs =>
      obtain ⟨g, e⟩ := ifsome (c := (nkT a).isSome) e
      cases e
      obtain ⟨x, g⟩ := Option.isSome_iff_exists.mp g
      obtain ⟨p, kas, e1, h1, r1⟩ := rb.dct fh
      have ra' := ra.rep (nkT_own g)
      exact .inr (.inr ⟨kvs, a, ⟨F, p, kas, x, fh, e1, h1, r1, ra', g⟩, out0 fh hd h (.bl _) nl_bl⟩)
  | is =>
    refine op_of (OpR.or op_isN op_isBl) fun x y H Q ⟨F, s, a, b, d, fh, hd, ra, rb, e, h⟩ => ?_
    cases b <;> first | (cases a <;> cases e; done) | skip
    case non =>
      simp only [cmpD, Option.some.injEq] at e
      subst e
      refine .inl ⟨repB_non rb, ?_⟩
      rw [repB_isnon ra]
      exact out0 fh hd h (.bl _) nl_bl
    case bl j =>
      cases a <;> first | (cases e; done) | skip
      case bl i =>
        cases e
        rw [repB_bl ra, repB_bl rb]
        refine .inr ⟨i, j, rfl, rfl, ?_⟩
        rw [show decide (i = j) = (i == j) by cases i <;> cases j <;> rfl]
        exact out0 fh hd h (.bl _) nl_bl
  | isnot =>
    refine op_of (OpR.or op_notN op_notBl) fun x y H Q ⟨F, s, a, b, d, fh, hd, ra, rb, e, h⟩ => ?_
    cases b <;> first | (cases a <;> cases e; done) | skip
    case non =>
      simp only [cmpD, Option.some.injEq] at e
      subst e
      refine .inl ⟨repB_non rb, ?_⟩
      rw [repB_isnon ra]
      exact out0 fh hd h (.bl _) nl_bl
    case bl j =>
      cases a <;> first | (cases e; done) | skip
      case bl i =>
        cases e
        rw [repB_bl ra, repB_bl rb]
        refine .inr ⟨i, j, rfl, rfl, ?_⟩
        rw [show (!decide (i = j)) = (!(i == j)) by cases i <;> cases j <;> rfl]
        exact out0 fh hd h (.bl _) nl_bl
end
end Ev
set_option maxHeartbeats 4000000
/-! EvSound: the evaluator's word is the model's: expressions. -/
namespace Ev
open PySem PySem.Spec PyProof.Rows L2
theorem PEw {X : Cx} {e : Expr} {t t' : TE} (h : PE X e t) (w : ∀ σ H Q, t' σ H Q → t σ H Q) : PE X e t' := ⟨fun pins s σ H Q I q => h.run pins s σ H Q I (w σ H Q q)⟩
theorem PTw {X : Cx} {e : Expr} {t t' : TT} (h : PT X e t) (w : ∀ σ H Q, t' σ H Q → t σ H Q) : PT X e t' := ⟨fun pins s σ H Q I q => h.run pins s σ H Q I (w σ H Q q)⟩
theorem PWw {X : Cx} {e : Expr} {t t' : TT} (h : PW X e t) (w : ∀ σ H Q, t' σ H Q → t σ H Q) : PW X e t' := ⟨fun wh pins s σ H Q I q => h.run wh pins s σ H Q I (w σ H Q q)⟩
theorem PAw {X : Cx} {e : List Expr} {t t' : TA} (h : PA X e t) (w : ∀ σ H Q, t' σ H Q → t σ H Q) : PA X e t' := ⟨fun ps pins s σ H Q I q => h.run ps pins s σ H Q I (w σ H Q q)⟩
theorem POw {X : Cx} {e : Option Expr} {t t' : TO} (h : PO X e t) (w : ∀ σ H Q, t' σ H Q → t σ H Q) : PO X e t' := ⟨fun pins s σ H Q I q => h.run pins s σ H Q I (w σ H Q q)⟩
theorem PSw {X : Cx} {e : Stmt} {t t' : TS} (h : PS X e t) (w : ∀ D σ H, t' D σ H → t D σ H) : PS X e t' := ⟨fun pins s σ H D I q => h.run pins s σ H D I (w D σ H q)⟩
theorem PSsw {X : Cx} {e : List Stmt} {t t' : TS} (h : PSs X e t) (w : ∀ D σ H, t' D σ H → t D σ H) : PSs X e t' := ⟨fun pins s σ H D I q => h.run pins s σ H D I (w D σ H q)⟩
theorem PIw {X : Cx} {tg e : Expr} {t t' : TI} (h : PI X tg e t) (w : ∀ σ H R, t' σ H R → t σ H R) : PI X tg e t' := ⟨fun pins s σ H R I q => h.run pins s σ H R I (w σ H R q)⟩
/-! ### readings by the evaluator -/
inductive RepsB (k : Kx) (F H : Hp) (s : St) : List V → List D → Prop
  | nil : RepsB k F H s [] []
  | cons {v : V} {vs : List V} {d : D} {ds : List D} : RepB k F H s v d → RepsB k F H s vs ds → RepsB k F H s (v :: vs) (d :: ds)
section
variable (k : Kx) (W : XK) (Y : Cf)
def tE (t : C) : TE := fun σ H Q => ∃ B F ρ s, EnvOk k B F H σ ρ s ∧ Post k W F H s (evE Y t ρ s) fun d _ F' H' => ∀ v, Rep k F' v d → Q v H'
def tB (t : C) : TE := fun σ H Q => ∃ B F ρ s, EnvOk k B F H σ ρ s ∧ Post k W F H s (bor t ρ s (evE Y t ρ s)) fun d s' F' H' => ∀ v, RepB k F' H' s' v d → Q v H'
def tN (t : C) : TE := fun σ H Q => ∃ B F ρ s, EnvOk k B F H σ ρ s ∧ Post k W F H s (evE Y t ρ s) fun d _ F' H' => ∀ v, RepF k H F' H' v d → Q v H'
def tA (ts : List C) : TA := fun σ H Q => ∃ B F ρ s, EnvOk k B F H σ ρ s ∧ Post k W F H s (evEs Y ts ρ s) fun ds _ F' H' => ∀ vs, Reps k F' vs ds → Q vs H'
def tAB (ts : List C) : TA := fun σ H Q => ∃ B F ρ s, EnvOk k B F H σ ρ s ∧ Post k W F H s (evBs Y ts ρ s) fun ds s' F' H' => ∀ vs, RepsB k F' H' s' vs ds → Q vs H'
def tT (t : T) : TT := fun σ H Q => ∃ B F ρ s, EnvOk k B F H σ ρ s ∧ Post k W F H s (evT Y t ρ s) fun b _ _ H' => Q b H'
def tTo (t : Option T) : TT := fun σ H Q => ∃ B F ρ s, EnvOk k B F H σ ρ s ∧ Post k W F H s (evTo Y t ρ s) fun b _ _ H' => Q b H'
def tAll (t : List T) : TT := fun σ H Q => ∃ B F ρ s, EnvOk k B F H σ ρ s ∧ Post k W F H s (evAll Y t ρ s) fun b _ _ H' => Q b H'
def tAny (t : List T) : TT := fun σ H Q => ∃ B F ρ s, EnvOk k B F H σ ρ s ∧ Post k W F H s (evAny Y t ρ s) fun b _ _ H' => Q b H'
def tP (t : Option C) : TO := fun σ H Q => ∃ B F ρ s, EnvOk k B F H σ ρ s ∧ Post k W F H s (evP Y t ρ s) fun o _ _ H' => Q o H'
end
/-- a later state -/
def Later (k : Kx) (w : Bool) (F H : Hp) (s : St) (F' H' : Hp) (s' : St) : Prop := if w = true then Ext k F H s F' H' s' else Same F F' ∧ Same F' H' ∧ HandOk k F' H' s'
structure WalkD (k : Kx) (G : Hp → Hp → St → Prop) (ds : List D) (J : It) : Prop where
  go : ∀ i F H s, i < ds.length → G F H s → J.go i H
  stop : ∀ F H s, G F H s → J.stop ds.length H
  yld : ∀ i d F H s x H', ds[i]? = some d → G F H s → J.yld i H x H' → ∃ F', Ext k F H s F' H' s ∧ Rep k F' x d
def tI (k : Kx) (W : XK) (Y : Cf) (w : Bool) (t : I) : TI := fun σ H R => ∃ B F ρ s, EnvOk k B F H σ ρ s ∧ Post k W F H s (evI Y w t ρ s) fun ds s' F' H' => ∀ J, WalkD k (Later k w F' H' s') ds J → R J H'
/-! ### the context -/
/-- types' names, as values -/
def tagVal (k : Kx) (t : Str) : Option Value := match tagNames.lookup t with
  | some n => some (.type n)
  | none => (k.cls t).map .ref
def clsVal (k : Kx) (t : Str) : Option Value := match clsNames.lookup t with
  | some n => some (.type n)
  | none => (k.cls t).map .ref
/-- a def's promise: what the evaluator tells of its call -/
def SpEv (k : Kx) (P : Pg) (n : Nat) (ps : List Str) (f : Str) : Sp := fun vs H Q E => vs.length = ps.length ∧ ∃ F s ds, Same F H ∧ HandOk k F H s ∧ Reps k F vs ds ∧ Post k E F H s (call P n f ds s) fun d _ F' H' => ∀ v, Rep k F' v d → Q v H'
def BLT : List Str := ["len", "abs", "int", "tuple", "list", "sum", "all", "any", "min", "max", "repr", "sorted", "set", "range", "enumerate", "zip", "isinstance", "dict", "reversed", "bool", "str", "divmod"]
/-- names, scope of a block -/
structure Ck where
  N : List Str
  sc : Scope
  fn : Str → Bool
  wo : Bool := false
  hot : Bool := false
  exs : List (Str × Bool) := []
  exv : Str := ""
/-- what __init__ is to do: the object's fields as the evaluator tells them -/
def SpNew (k : Kx) (P : Pg) (x : Str) (C : Addr) (ps : List Str) : Sp := fun vs H Q E => ∃ a dx rest F s ds fs, vs = .ref a :: rest ∧ rest.length + 1 = ps.length ∧ Same F H ∧ HandOk k F H s ∧ H a = some (.ins C dx []) ∧ F a = none ∧ H dx = some (.own a) ∧ ¬ Mx k s a ∧ Reps k F rest ds ∧ P.nw x ds = some (.obj x fs) ∧
  ∀ F' H' ws, Ext k F (upd H a (.ins C dx ((P.fl x).zip ws))) s F' H' s → Reps k F' ws fs → ws.length = (P.fl x).length → Q .non H'
/-- what the word's def makes of the lambda's reading -/
def TTw (k : Kx) (P : Pg) : (XK → Hp → VK → Prop) → Hp → VK → Prop := fun tl H Q =>
  tl (fun cls d H' => ∃ x C wd, k.ecl x = some C ∧ cls = .ref C ∧ d = none ∧ P.wrd (some x) = some wd ∧ LamX.Tabs k.tb H' ∧ ∀ H'', LamX.ExtN H' H'' → LamX.Tabs k.tb H'' → Q (.str wd) H'') H (fun _ H' => ∃ wd, P.wrd none = some wd ∧ Q (.str wd) H')
/-- a lambda may be handed to the word's def here -/
def WdOk (k : Kx) (P : Pg) (X : Cx) : Prop := ∃ (g c Pt : Addr) (pg : Arguments) (bg : List Stmt) (sg : Scope) (dV kV doc pm cdv ct oc : Value) (an od : Option Addr) (osl : Array (Option Value)) (Ng : List Str) (a : Str),
  X.mg "_law_word" = some (.ref g) ∧ PySem.W.keepIn X.K (.ref g) = true ∧ X.K.lookup g = some ⟨oc, od, .func (PySem.W.fnOf "_law_word" "_law_word" pg bg sg dV kV doc pm an cdv ct), osl⟩ ∧ PySem.W.codeIn X.K cdv "_law_word" = true ∧
  L2.Binds X.K (PySem.W.fnOf "_law_word" "_law_word" pg bg sg dV kV doc pm an cdv ct) [a] [] ∧ FnScope Ng [a] sg ∧ Ng[0]? = some a ∧ Vis sg a ∧ LamX.GivesTo X Ng "_law_word" sg g cdv bg a (X.env.qual ++ "<lambda>") (TTw k P) ∧ LamX.TabB X.base X.mg c Pt ∧ X.env.code = .ref c ∧
  (Pt, X.env.qual ++ "<lambda>") ∈ k.tb ∧ (∀ p ∈ k.tb, p.1 = Pt → p.2 = X.env.qual ++ "<lambda>") ∧ (a == ("__debug__" : Str)) = false ∧ (a == ("__classdict__" : Str)) = false
structure Good (k : Kx) (P : Pg) (n : Nat) (c : Ck) (W : XK) (X : Cx) : Prop where
  hK : X.K = k.K
  hw : X.w = k.w
  hN : X.N = c.N
  nd : c.N.Nodup
  sc : X.env.scope = c.sc
  fn : X.fn = c.fn
  calm : c.hot = false → X.calm = true
  exI : ∀ u b i x p p1 p2 pos, c.exs.lookup u = some b → c.N[i]? = some x → (c.sc.names.lookup x = some .local ∨ c.sc.names.lookup x = some .cell ∨ c.sc.names.lookup x = some .free) → ((x == ("__debug__" : Str)) = false ∧ (x == ("__classdict__" : Str)) = false) → c.sc.names.lookup ("isinstance" : Str) = some .globalImplicit → c.sc.names.lookup u = some .globalImplicit → ((u == ("__debug__" : Str)) = false ∧ u ≠ "__name__") → PE X (.Call (.Name "isinstance" p) [.Name x p1, .Name u p2] [] pos) (tE k W (cfOf P n) (.exi i b))
  po : PassesOwn (model X.prog X.w) X.A X.env X.xe
  room : c.hot = false → Room n X.A
  u65 : X.A.units + 65 < cLine
  tk : Takes X (fun cls d _ H => W cls d H)
  fl : k.fl = P.fl
  blt : ∀ x ∈ BLT, X.mg x = none
  gl : ∀ x d, P.gl x = some d → ∃ u v, X.mg x = some u ∧ RelV v u ∧ ∀ F, Rep k F v d
  calls : ∀ m, m ≤ n → ∀ f a, k.fns f = some a → ∃ fd ps, FnOk X.prog X.w X.K X.mg X.base (L2.CX X.prog X.w) m a fd ps (SpEv k P m ps f) ∧ X.mg f = some (.ref a) ∧ PySem.W.keepIn X.K (.ref a) = true ∧ Binds X.K fd ps [] ∧ ∀ ds s, call P m f ds s ≠ none → ds.length = ps.length
  objs : ∀ x C, k.cls x = some C → Cls X.K C ∧ (∀ f ∈ k.fl x, NoAttr X.K C f)
  objT : ∀ x C, k.cls x = some C → PySem.W.findIn X.K (.ref C) "__class__" = some (some (.builtin "object.__class__")) ∧ PySem.W.specialIn X.K (.builtin "object.__class__") "__get__" = some (some (.builtin "getset_descriptor.__get__")) ∧ PySem.W.takesIn X.K (.builtin "object.__class__") = some true ∧ PySem.W.mroIn X.K C (.type "object") = some true
  ownN : ∀ x C, k.cls x = some C → tagNames.lookup x = none
  clsG : ∀ x C, k.cls x = some C → X.mg x = some (.ref C)
  news : ∀ x C, k.cls x = some C → ∃ f fd ps l, Mk X.K C f ∧ FnOk X.prog X.w X.K X.mg X.base (L2.CX X.prog X.w) l f fd ps (SpNew k P x C ps) ∧ Binds X.K fd ps [] ∧ l + 1 ≤ P.nwL ∧ ∀ ds d, P.nw x ds = some d → ds.length + 1 = ps.length ∧ ∃ fs, d = .obj x fs
  hnl : P.nwL ≤ n
  wds : c.wo = true → WdOk k P X
  hfn : ∀ f, P.fnB f = true → ∃ a, k.fns f = some a
  hcl : ∀ t, P.clB t = true → clsNames.lookup t ≠ none ∨ ∃ C, k.cls t = some C
  hex : ∀ x, P.exB x = true → ∃ C bmB B newId initId, ExcBaseFacts B newId initId bmB ∧ PySem.W.excIn X.K C bmB newId = true ∧ X.mg x = some (.ref C) ∧ PySem.W.keepIn X.K (.ref C) = true ∧ L2.Raises X (.ref C) ∧ k.ecl x = some C
  isi : ∀ t u tv uv, tagVal k t = some tv → clsVal k u = some uv → PySem.W.kitOne X.K tv uv = some (isiT t u)
/-! ### names -/
def okN (x : Str) : Bool := !(x == ("__debug__" : Str)) && !(x == ("__classdict__" : Str)) && decide (x ≠ "__name__")
def visB (c : Ck) (x : Str) : Bool := match c.sc.names.lookup x with
  | some .local => true
  | some .cell => true
  | some .free => true
  | _ => false
def locB (c : Ck) (x : Str) : Bool := match c.sc.names.lookup x with
  | some .local => true
  | some .cell => c.fn x
  | _ => false
def glB (c : Ck) (x : Str) : Bool := decide (c.sc.names.lookup x = some .globalImplicit)
theorem okN_d {x : Str} (h : okN x = true) : (x == ("__debug__" : Str)) = false ∧ (x == ("__classdict__" : Str)) = false ∧ x ≠ "__name__" := by
  unfold okN at h
  simp only [Bool.and_eq_true, Bool.not_eq_true', decide_eq_true_eq] at h
  exact ⟨h.1.1, h.1.2, h.2⟩
section
variable {k : Kx} {P : Pg} {n : Nat} {c : Ck} {W : XK} {X : Cx}
theorem Good.vis (g : Good k P n c W X) {x : Str} (h : visB c x = true) : Vis X.env.scope x := by
  unfold visB at h
  unfold Vis
  rw [g.sc]
  split at h <;> first | (simp_all; done) | cases h
theorem Good.loc (g : Good k P n c W X) {x : Str} (h : locB c x = true) : L2.Loc X.env.scope x ∧ (X.fn x = true ∨ X.env.scope.names.lookup x = some .local) := by
  unfold locB at h
  unfold L2.Loc
  rw [g.sc, g.fn]
  split at h <;> first | (simp_all; done) | cases h
theorem Good.glob (g : Good k P n c W X) {x : Str} (h : glB c x = true) : Gl X x := by
  have := of_decide_eq_true h
  unfold Gl
  show X.env.scope.names.lookup x = _
  rw [g.sc]
  exact this
theorem Good.noblt (g : Good k P n c W X) {x : Str} (h : x ∈ BLT) : X.mg x = none := g.blt x h
end
/-! ### not a star, not a slice, .. -/
def plainB (e : Expr) : Bool := match e with
  | .Starred _ _ => false
  | .Slice _ _ _ _ => false
  | .Call (.Name _ _) [] [] _ => false
  | _ => true
theorem star1 {e : Expr} (h : plainB e = true) (es : List Expr) (env : PySem.Env) : starEach (e :: es) env = (false, eval e env) :: starEach es env := by
  cases e <;> first | rfl | cases h
theorem stars {es : List Expr} (h : es.all plainB = true) (pos : Pos) (env : PySem.Env) : (backTo pos (starEach es env)).any (·.1) = false := by
  induction es with
  | nil => rfl
  | cons e es ih =>
    rw [List.all_cons, Bool.and_eq_true] at h
    rw [star1 h.1]
    show (false || (backTo pos (starEach es env)).any (·.1)) = false
    rw [ih h.2]
    rfl
theorem ix_plain {e : Expr} (h : plainB e = true) : PlainIx e := by
  cases e <;> first | (intro o i; rfl) | cases h
theorem base_plain {e : Expr} (h : plainB e = true) (f : Str) (env : PySem.Env) (w : Sem Value) : attributeBase e f env w = w := by
  cases e with
  | Call fn args kws pos =>
    cases fn <;> first | rfl | skip
    rename_i x p
    cases args with
    | nil =>
      cases kws with
      | nil => cases h
      | cons _ _ => rfl
    | cons _ _ => rfl
  | _ => rfl
theorem RepF.up {k : Kx} {F' H' H H1 : Hp} {v : V} {d : D} (h : ∀ p, nt H1 p = none → nt H p = none) (r : RepF k H1 F' H' v d) : RepF k H F' H' v d := by
  cases o : ownB d with
  | true =>
    unfold RepF at r ⊢
    rw [if_pos o] at r ⊢
    obtain ⟨p, u, e1, h1, h2, h3, h4⟩ := r
    exact ⟨p, u, e1, h p h1, h2, h3, h4⟩
  | false => exact RepF.no o (r.sc o)
/-! ### single rules -/
section
variable {k : Kx} {P : Pg} {n : Nat} {c : Ck} {W : XK} {X : Cx} {Y : Cf}
theorem q_var {i : Nat} {x : Str} {pos : Pos} (g : Good k P n c W X) (h1 : c.N[i]? = some x) (h2 : visB c x = true) (h3 : okN x = true) : PE X (.Name x pos) (tE k W Y (.var i)) := by
  refine PEw (pe_var (i := i) (by rw [g.hN]; exact h1) (g.vis h2) (okN_d h3).1 (okN_d h3).2.1) fun σ H Q ⟨B, F, ρ, s, ok, h⟩ => ?_
  obtain ⟨d, e, q⟩ := Post.lift (show Post k W F H s (lift (ρ.at i).val s) _ from h)
  obtain ⟨v, e1, r⟩ := ok.val e
  exact ⟨v, e1, q F H ok.self v r⟩
theorem q_varB {i : Nat} {x : Str} {pos : Pos} (g : Good k P n c W X) (h1 : c.N[i]? = some x) (h2 : visB c x = true) (h3 : okN x = true) : PE X (.Name x pos) (tB k W Y (.var i)) := by
  refine PEw (pe_var (i := i) (by rw [g.hN]; exact h1) (g.vis h2) (okN_d h3).1 (okN_d h3).2.1) fun σ H Q ⟨B, F, ρ, s, ok, h⟩ => ?_
  obtain ⟨d, e, q⟩ := Post.lift (show Post k W F H s (lift (ρ.at i).bor s) _ from h)
  have q := q F H ok.self
  obtain ⟨A, a1, a2, a3⟩ := ok.sl
  have a := a1 i
  have b := a3 i
  cases z : ρ.at i with
  | no => rw [z] at e; cases e
  | v d' =>
    rw [z] at e a
    cases e
    match y : σ[i]?, a with
    | some (some v), a => exact ⟨v, y, q v (.inl a)⟩
  | own d' =>
    rw [z] at e a b
    cases e
    match y : σ[i]?, a with
    | some (some v), ⟨a1, a2, o, a3, a4⟩ => exact ⟨v, y, q v (.inr ⟨A i, o, a1, a3, a4, a2, (b rfl).2⟩)⟩
/-- every expression but a name is read as it is -/
theorem tB_of {t : C} (h : ∀ i, t ≠ .var i) {e : Expr} (p : PE X e (tE k W Y t)) : PE X e (tB k W Y t) := by
  refine PEw p fun σ H Q ⟨B, F, ρ, s, ok, q⟩ => ⟨B, F, ρ, s, ok, ?_⟩
  have e1 : bor t ρ s (evE Y t ρ s) = evE Y t ρ s := by
    cases t <;> first | rfl | exact absurd rfl (h _)
  rw [e1] at q
  exact q.mono fun d s' F' H' _ q v r => q v (.inl r)
/-- a new thing is sealed -/
theorem tE_of_N {t : C} {e : Expr} (p : PE X e (tN k W Y t)) : PE X e (tE k W Y t) := by
  refine PEw p fun σ H Q ⟨B, F, ρ, s, ok, q⟩ => ⟨B, F, ρ, s, ok, ?_⟩
  revert q
  generalize evE Y t ρ s = o
  intro q
  match o, q with
  | some (.ok d, s'), q =>
    intro F' H' E v r
    obtain ⟨F'', E2, r2⟩ := RepF.sealed ok.ext.hand E r
    exact q F'' H' E2 v r2
  | some (.ex e, s'), q => exact q
theorem q_sc {t : C} {d : D} {v : V} {e : Expr} (p : PE X e (tC v)) (he : ∀ ρ s, evE Y t ρ s = ok d s) (r : ∀ F, Rep k F v d) : PE X e (tE k W Y t) := by
  refine PEw p fun σ H Q ⟨B, F, ρ, s, ok, q⟩ => ?_
  rw [he] at q
  exact q F H ok.self v (r F)
theorem q_tup {ts : List C} {es : List Expr} {x1 : Nat} {pos : Pos} (p : PA X es (tA k W Y ts)) : PE X (.Tuple es x1 pos) (tE k W Y (.tup ts)) := by
  refine PEw (pe_tup p) fun σ H Q ⟨B, F, ρ, s, ok, q⟩ => ⟨B, F, ρ, s, ok, ?_⟩
  refine (Post.bnd (show Post k W F H s (bnd (evEs Y ts ρ s) _) _ from q)).mono fun ds s1 F1 H1 E1 q vs r => ?_
  obtain ⟨d, e, q⟩ := Post.lift q
  obtain ⟨g, rfl⟩ := guardD_some e
  refine ⟨lim_line (by rw [r.length]; exact of_decide_eq_true g), fun p np => ?_⟩
  exact q _ _ (Ext.newS E1.fh E1.hand np) _ (.tup (SqT.of upd_same) (Reps.mono (fun b u e => by rw [upd_ne (ne_of_none e (Ext.fn E1.fh np))]; exact e) r))
theorem q_lst {ts : List C} {es : List Expr} {pos : Pos} (p : PA X es (tA k W Y ts)) : PE X (.List es pos) (tN k W Y (.lst ts)) := by
  refine PEw (pe_lst p) fun σ H Q ⟨B, F, ρ, s, ok, q⟩ => ⟨B, F, ρ, s, ok, ?_⟩
  refine (Post.bnd (show Post k W F H s (bnd (evEs Y ts ρ s) _) _ from q)).mono fun ds s1 F1 H1 E1 q vs r => ?_
  obtain ⟨d, e, q⟩ := Post.lift q
  obtain ⟨g, rfl⟩ := guardD_some e
  refine ⟨lim_line (by rw [r.length]; exact of_decide_eq_true g), fun p np => ?_⟩
  exact q _ _ (Ext.new E1.fh E1.hand np) _ (RepF.lst (E1.hnone (nt_none np)) (Ext.fn E1.fh np) upd_same r)
theorem q_bin (g : Good k P n c W X) {o : Bop} {a b : C} {ea eb : Expr} {pos : Pos} (pa : PE X ea (tB k W Y a)) (pb : PE X eb (tB k W Y b)) : PE X (.BinOp ea (bopOf o) eb pos) (tN k W Y (.bin o a b)) := by
  refine PEw (pe_op (bin_ok g.hK o) pa pb) fun σ H Q ⟨B, F, ρ, s, ok, q⟩ => ⟨B, F, ρ, s, ok, ?_⟩
  refine (Post.bnd (show Post k W F H s (bnd (bor a ρ s (evE Y a ρ s)) _) _ from q)).mono fun x s1 F1 H1 E1 q v r => ⟨B, F1, ρ, s1, ok.next E1, ?_⟩
  refine (Post.bnd q).mono fun y s2 F2 H2 E2 q w r2 => ?_
  obtain ⟨d, e, q⟩ := Post.lift q
  refine ⟨F2, s2, x, y, d, E2.fh, E2.hand, r.ext E2, r2, e, fun v' F' H' E' r' => q F' H' E' v' (r'.up fun p h => E1.hnone (E2.hnone h))⟩
theorem q_neg {a : C} {ea : Expr} {pos : Pos} (pa : PE X ea (tE k W Y a)) : PE X (.UnaryOp .USub ea pos) (tE k W Y (.neg a)) := by
  refine PEw (pe_un un_neg pa) fun σ H Q ⟨B, F, ρ, s, ok, q⟩ => ⟨B, F, ρ, s, ok, ?_⟩
  refine (Post.bnd (show Post k W F H s (bnd (evE Y a ρ s) _) _ from q)).mono fun x s1 F1 H1 E1 q v r => ?_
  obtain ⟨d, e, q⟩ := Post.lift q
  cases x <;> first | (cases e; done) | skip
  cases e
  rw [rep_int r]
  exact ⟨_, rfl, q F1 H1 (Ext.refl E1.fh E1.hand) _ (.int _)⟩
theorem Room.u65 {m : Nat} {A : Around} (r : Room m A) : A.units + 65 < cLine := by have := r.un; omega
theorem q_cmp (g : Good k P n c W X) {o : Cop} {a b : C} {ea eb : Expr} {pos : Pos} (pa : PE X ea (tB k W Y a)) (pb : PE X eb (tB k W Y b)) (hm : behindInMarks (copOf o) eb = false) : PE X (.Compare ea [copOf o] [eb] pos) (tE k W Y (.cmp o a b)) := by
  refine tE_of_N (PEw (pe_cmpR (cmp_ok g.hK g.hw (g.u65) o) pa pb hm) fun σ H Q ⟨B, F, ρ, s, ok, q⟩ => ⟨B, F, ρ, s, ok, ?_⟩)
  refine (Post.bnd (show Post k W F H s (bnd (bor a ρ s (evE Y a ρ s)) _) _ from q)).mono fun x s1 F1 H1 E1 q v r => ⟨B, F1, ρ, s1, ok.next E1, ?_⟩
  refine (Post.bnd q).mono fun y s2 F2 H2 E2 q w r2 => ?_
  obtain ⟨d, e, q⟩ := Post.lift q
  refine ⟨F2, s2, x, y, d, E2.fh, E2.hand, r.ext E2, r2, e, fun v' F' H' E' r' => q F' H' E' v' (r'.up fun p h => E1.hnone (E2.hnone h))⟩
end
section
variable {k : Kx} {P : Pg} {n : Nat} {c : Ck} {W : XK} {X : Cx} {Y : Cf}
theorem cmpD_bl {o : Cop} {x y d : D} (h : cmpD o x y = some d) : ∃ b, d = .bl b := by
  cases o
  case eq => obtain ⟨b, _, rfl⟩ := mapbl (show (eqD x y).map D.bl = some d from h); exact ⟨_, rfl⟩
  case ne => obtain ⟨b, _, rfl⟩ := mapnb (show ((eqD x y).map fun b => D.bl (!b)) = some d from h); exact ⟨_, rfl⟩
  case isin =>
    cases y <;> first | (cases h; done) | skip
    case lst ys => obtain ⟨_, h⟩ := ifsome (c := D.plain x 64 && D.plains ys 63) h; obtain ⟨b, _, rfl⟩ := mapbl h; exact ⟨_, rfl⟩
    case tup ys => obtain ⟨_, h⟩ := ifsome (c := flatD x && ys.all flatD) h; obtain ⟨b, _, rfl⟩ := mapbl h; exact ⟨_, rfl⟩
    case dct ys => obtain ⟨_, h⟩ := ifsome (c := (nkT x).isSome) h; cases h; exact ⟨_, rfl⟩
  case notin =>
    cases y <;> first | (cases h; done) | skip
    case lst ys => obtain ⟨_, h⟩ := ifsome (c := D.plain x 64 && D.plains ys 63) h; obtain ⟨b, _, rfl⟩ := mapnb h; exact ⟨_, rfl⟩
    case tup ys => obtain ⟨_, h⟩ := ifsome (c := flatD x && ys.all flatD) h; obtain ⟨b, _, rfl⟩ := mapnb h; exact ⟨_, rfl⟩
    case dct ys => obtain ⟨_, h⟩ := ifsome (c := (nkT x).isSome) h; cases h; exact ⟨_, rfl⟩
  all_goals (cases x <;> cases y <;> first | (cases h; done) | (cases h; exact ⟨_, rfl⟩) | (simp only [cmpD, Option.some.injEq] at h; exact ⟨_, h.symm⟩))
theorem q_chain (g : Good k P n c W X) {o o' : Cop} {a b d : C} {ea eb ed : Expr} {pos : Pos} (pa : PE X ea (tE k W Y a)) (pb : PE X eb (tE k W Y b)) (pd : PE X ed (tE k W Y d)) (hm : lastMarks [copOf o, copOf o'] [eb, ed] = false) : PE X (.Compare ea [copOf o, copOf o'] [eb, ed] pos) (tE k W Y (.chain o o' a b d)) := by
  refine tE_of_N (PEw (pe_chain (cmp_ok g.hK g.hw (g.u65) o) (cmp_ok g.hK g.hw (g.u65) o') pa pb pd hm) fun σ H Q ⟨B, F, ρ, s, ok, q⟩ => ⟨B, F, ρ, s, ok, ?_⟩)
  refine (Post.bnd (show Post k W F H s (bnd (evE Y a ρ s) _) _ from q)).mono fun x s1 F1 H1 E1 q v r => ⟨B, F1, ρ, s1, ok.next E1, ?_⟩
  refine (Post.bnd q).mono fun y s2 F2 H2 E2 q w r2 => ?_
  obtain ⟨z, e, q⟩ := Post.lift (Post.bnd q)
  obtain ⟨bb, rfl⟩ := cmpD_bl e
  refine ⟨F2, s2, x, y, _, E2.fh, E2.hand, .inl (Rep.mono E2.ff r), .inl r2, e, fun v' F' H' E' r' => ?_⟩
  have r' : Rep k F' v' (.bl bb) := r'.sc rfl
  rw [rep_bl r']
  refine ⟨bb, rfl, ?_⟩
  have q := q F' H' E'
  cases bb with
  | true =>
    rw [if_pos rfl]
    refine ⟨B, F', ρ, s2, (ok.next (E1.trans E2)).next E', ?_⟩
    refine (Post.bnd q).mono fun w2 s3 F3 H3 E3 q w' r3 => ?_
    obtain ⟨z2, e2, q⟩ := Post.lift q
    refine ⟨F3, s3, y, w2, z2, E3.fh, E3.hand, .inl (Rep.mono (E'.trans E3).ff r2), .inl r3, e2, fun v'' F'' H'' E'' r'' => q F'' H'' E'' v'' (r''.up fun p h => E1.hnone (E2.hnone (E'.hnone (E3.hnone h))))⟩
  | false =>
    rw [if_neg Bool.false_ne_true]
    exact Post.ok q (Ext.refl E'.fh E'.hand) _ (.bl false)
theorem q_not {a : C} {ea : Expr} {pos : Pos} (pa : PE X ea (tE k W Y a)) : PE X (.UnaryOp .Not ea pos) (tE k W Y (.notv a)) := by
  refine PEw (pe_not pa) fun σ H Q ⟨B, F, ρ, s, ok, q⟩ => ⟨B, F, ρ, s, ok, ?_⟩
  refine (Post.bnd (show Post k W F H s (bnd (evE Y a ρ s) _) _ from q)).mono fun x s1 F1 H1 E1 q v r => ?_
  cases x <;> first | (exact q.elim) | skip
  rw [rep_bl r]
  exact ⟨_, rfl, Post.ok q (Ext.refl E1.fh E1.hand) _ (.bl _)⟩
def tAndV' (k : Kx) (W : XK) (Y : Cf) (ts : List C) : TE := fun σ H Q => ∃ B F ρ s, EnvOk k B F H σ ρ s ∧ Post k W F H s (evAnd Y ts ρ s) fun d _ F' H' => ∀ v, Rep k F' v d → Q v H'
def tOrV' (k : Kx) (W : XK) (Y : Cf) (ts : List C) : TE := fun σ H Q => ∃ B F ρ s, EnvOk k B F H σ ρ s ∧ Post k W F H s (evOr Y ts ρ s) fun d _ F' H' => ∀ v, Rep k F' v d → Q v H'
theorem q_and1 {a : C} {ea : Expr} {op : PySem.BoolOp} {pos : Pos} (pa : PE X ea (tE k W Y a)) : PE X (.BoolOp op [ea] pos) (tAndV' k W Y [a]) := PEw (pe_one pa) fun σ H Q h => h
theorem q_or1 {a : C} {ea : Expr} {op : PySem.BoolOp} {pos : Pos} (pa : PE X ea (tE k W Y a)) : PE X (.BoolOp op [ea] pos) (tOrV' k W Y [a]) := PEw (pe_one pa) fun σ H Q h => h
theorem q_andc {a b : C} {r : List C} {ea eb : Expr} {er : List Expr} {pos : Pos} (pa : PE X ea (tE k W Y a)) (pb : PE X (.BoolOp .And (eb :: er) pos) (tAndV' k W Y (b :: r))) : PE X (.BoolOp .And (ea :: eb :: er) pos) (tAndV' k W Y (a :: b :: r)) := by
  refine PEw (pe_and pa pb) fun σ H Q ⟨B, F, ρ, s, ok, q⟩ => ⟨B, F, ρ, s, ok, ?_⟩
  refine (Post.bnd (show Post k W F H s (bnd (evE Y a ρ s) _) _ from q)).mono fun x s1 F1 H1 E1 q v r => ?_
  cases x <;> first | (exact q.elim) | skip
  rename_i bb
  rw [rep_bl r]
  refine ⟨bb, rfl, ?_⟩
  cases bb with
  | true =>
    rw [if_pos rfl]
    exact ⟨B, F1, ρ, s1, ok.next E1, q⟩
  | false =>
    rw [if_neg Bool.false_ne_true]
    exact Post.ok q (Ext.refl E1.fh E1.hand) _ (.bl _)
theorem q_orc {a b : C} {r : List C} {ea eb : Expr} {er : List Expr} {pos : Pos} (pa : PE X ea (tE k W Y a)) (pb : PE X (.BoolOp .Or (eb :: er) pos) (tOrV' k W Y (b :: r))) : PE X (.BoolOp .Or (ea :: eb :: er) pos) (tOrV' k W Y (a :: b :: r)) := by
  refine PEw (pe_or pa pb) fun σ H Q ⟨B, F, ρ, s, ok, q⟩ => ⟨B, F, ρ, s, ok, ?_⟩
  refine (Post.bnd (show Post k W F H s (bnd (evE Y a ρ s) _) _ from q)).mono fun x s1 F1 H1 E1 q v r => ?_
  cases x <;> first | (exact q.elim) | skip
  rename_i bb
  rw [rep_bl r]
  refine ⟨bb, rfl, ?_⟩
  cases bb with
  | true =>
    rw [if_pos rfl]
    exact Post.ok q (Ext.refl E1.fh E1.hand) _ (.bl _)
  | false =>
    rw [if_neg Bool.false_ne_true]
    exact ⟨B, F1, ρ, s1, ok.next E1, q⟩
/-! tests -/
theorem truV_of {K : PySem.W.Frag} {F H : Hp} {s : St} {v : V} {d : D} {b : Bool} (hK : K = k.K) (fh : Same F H) (r : RepB k F H s v d) (h : truD d = some b) : TruV K v H b := by
  cases d <;> first | (cases h; done) | skip
  case non => cases h; rw [repB_non r]; rfl
  case bl => cases h; rw [repB_bl r]; rfl
  case int => cases h; rw [repB_int r]; rfl
  case tup ds =>
    cases h
    obtain ⟨a, xs, rfl, h1, h2⟩ := repB_tup r
    refine .inr (.inl ⟨xs, by rw [hK]; exact sameT fh h1, ?_⟩)
    cases h2 <;> rfl
  case lst ds =>
    cases h
    obtain ⟨a, xs, rfl, h1, h2⟩ := r.lst fh
    refine .inl ⟨xs, SqL.of h1, ?_⟩
    cases h2 <;> rfl
theorem q_test (g : Good k P n c W X) {a : C} {ea : Expr} (pa : PE X ea (tB k W Y a)) (he : ∀ whole, isTrue ea X.env whole = (do let v ← whole; standAt ea.pos; holding [v] (truthy v))) : PT X ea (tT k W Y (.e a)) := by
  refine PTw (pt_truth pa he) fun σ H Q ⟨B, F, ρ, s, ok, q⟩ => ⟨B, F, ρ, s, ok, ?_⟩
  refine (Post.bnd (show Post k W F H s (bnd (bor a ρ s (evE Y a ρ s)) _) _ from q)).mono fun x s1 F1 H1 E1 q v r => ?_
  obtain ⟨b, e, q⟩ := Post.lift q
  exact ⟨b, truV_of g.hK E1.fh r e, q F1 H1 (Ext.refl E1.fh E1.hand)⟩
theorem q_testcmp (g : Good k P n c W X) {o : Cop} {a b : C} {ea eb : Expr} {pos : Pos} (pa : PE X ea (tB k W Y a)) (pb : PE X eb (tB k W Y b)) (hm : behindInMarks (copOf o) eb = false) : PT X (.Compare ea [copOf o] [eb] pos) (tT k W Y (.e (.cmp o a b))) := by
  refine PTw (pt_cmpR (cmp_ok g.hK g.hw (g.u65) o) pa pb hm) fun σ H Q ⟨B, F, ρ, s, ok, q⟩ => ⟨B, F, ρ, s, ok, ?_⟩
  have q1 := Post.bnd (show Post k W F H s (bnd (bnd (bor a ρ s (evE Y a ρ s)) fun x s => bnd (bor b ρ s (evE Y b ρ s)) fun y s => lift (cmpD o x y) s) _) _ from q)
  refine (Post.bnd q1).mono fun x s1 F1 H1 E1 q v r => ⟨B, F1, ρ, s1, ok.next E1, ?_⟩
  refine (Post.bnd q).mono fun y s2 F2 H2 E2 q w r2 => ?_
  obtain ⟨d, e, q⟩ := Post.lift q
  obtain ⟨bb, rfl⟩ := cmpD_bl e
  refine ⟨F2, s2, x, y, _, E2.fh, E2.hand, r.ext E2, r2, e, fun v' F' H' E' r' => ?_⟩
  have r' : Rep k F' v' (.bl bb) := r'.sc rfl
  rw [rep_bl r']
  refine ⟨bb, rfl, ?_⟩
  exact Post.ok (show Post k W F' H' s2 (Ev.ok bb s2) _ from q F' H' E') (Ext.refl E'.fh E'.hand)
theorem q_testchain (g : Good k P n c W X) {o o' : Cop} {a b d : C} {ea eb ed : Expr} {pos : Pos} (pa : PE X ea (tE k W Y a)) (pb : PE X eb (tE k W Y b)) (pd : PE X ed (tE k W Y d)) (hm : lastMarks [copOf o, copOf o'] [eb, ed] = false) : PT X (.Compare ea [copOf o, copOf o'] [eb, ed] pos) (tT k W Y (.e (.chain o o' a b d))) := by
  refine PTw (pt_chain (cmp_ok g.hK g.hw (g.u65) o) (cmp_ok g.hK g.hw (g.u65) o') pa pb pd hm) fun σ H Q ⟨B, F, ρ, s, ok, q⟩ => ⟨B, F, ρ, s, ok, ?_⟩
  have q0 := Post.bnd (show Post k W F H s (bnd (evE Y (.chain o o' a b d) ρ s) _) _ from q)
  refine (Post.bnd (show Post k W F H s (bnd (evE Y a ρ s) _) _ from q0)).mono fun x s1 F1 H1 E1 q v r => ⟨B, F1, ρ, s1, ok.next E1, ?_⟩
  refine (Post.bnd q).mono fun y s2 F2 H2 E2 q w r2 => ?_
  obtain ⟨z, e, q⟩ := Post.lift (Post.bnd q)
  obtain ⟨bb, rfl⟩ := cmpD_bl e
  refine ⟨F2, s2, x, y, _, E2.fh, E2.hand, .inl (Rep.mono E2.ff r), .inl r2, e, fun v' F' H' E' r' => ?_⟩
  have r' : Rep k F' v' (.bl bb) := r'.sc rfl
  rw [rep_bl r']
  refine ⟨bb, rfl, ?_⟩
  have q := q F' H' E'
  cases bb with
  | true =>
    rw [if_pos rfl]
    refine ⟨B, F', ρ, s2, (ok.next (E1.trans E2)).next E', ?_⟩
    refine (Post.bnd q).mono fun w2 s3 F3 H3 E3 q w' r3 => ?_
    obtain ⟨z2, e2, q⟩ := Post.lift q
    obtain ⟨bc, rfl⟩ := cmpD_bl e2
    refine ⟨F3, s3, y, w2, _, E3.fh, E3.hand, .inl (Rep.mono (E'.trans E3).ff r2), .inl r3, e2, fun v'' F'' H'' E'' r'' => ?_⟩
    have r'' : Rep k F'' v'' (.bl bc) := r''.sc rfl
    rw [rep_bl r'']
    exact ⟨bc, rfl, Post.ok (show Post k W F'' H'' s3 (Ev.ok bc s3) _ from q F'' H'' E'') (Ext.refl E''.fh E''.hand)⟩
  | false =>
    rw [if_neg Bool.false_ne_true]
    exact ⟨false, rfl, Post.ok (show Post k W F' H' s2 (Ev.ok false s2) _ from Post.ok q (Ext.refl E'.fh E'.hand)) (Ext.refl E'.fh E'.hand)⟩
theorem q_tnot {t : T} {ea : Expr} {pos : Pos} (pa : PT X ea (tT k W Y t)) : PT X (.UnaryOp .Not ea pos) (tT k W Y (.not t)) := by
  refine PTw (pt_not pa) fun σ H Q ⟨B, F, ρ, s, ok, q⟩ => ⟨B, F, ρ, s, ok, ?_⟩
  exact (Post.bnd (show Post k W F H s (bnd (evT Y t ρ s) _) _ from q)).mono fun x s1 F1 H1 E1 q => Post.ok q (Ext.refl E1.fh E1.hand)
theorem q_all1 {t : T} {ea : Expr} {pos : Pos} (pa : PT X ea (tT k W Y t)) : PW X (.BoolOp .And [ea] pos) (tAll k W Y [t]) := by
  refine PWw (pw_and1 pa) fun σ H Q ⟨B, F, ρ, s, ok, q⟩ => ⟨B, F, ρ, s, ok, ?_⟩
  refine (Post.bnd (show Post k W F H s (bnd (evT Y t ρ s) _) _ from q)).mono fun x s1 F1 H1 E1 q => ?_
  cases x with
  | true => exact Post.ok (show Post k W F1 H1 s1 (Ev.ok true s1) _ from q) (Ext.refl E1.fh E1.hand)
  | false => exact Post.ok (show Post k W F1 H1 s1 (Ev.ok false s1) _ from q) (Ext.refl E1.fh E1.hand)
theorem q_any1 {t : T} {ea : Expr} {pos : Pos} (pa : PT X ea (tT k W Y t)) : PW X (.BoolOp .Or [ea] pos) (tAny k W Y [t]) := by
  refine PWw (pw_or1 pa) fun σ H Q ⟨B, F, ρ, s, ok, q⟩ => ⟨B, F, ρ, s, ok, ?_⟩
  refine (Post.bnd (show Post k W F H s (bnd (evT Y t ρ s) _) _ from q)).mono fun x s1 F1 H1 E1 q => ?_
  cases x with
  | true => exact Post.ok (show Post k W F1 H1 s1 (Ev.ok true s1) _ from q) (Ext.refl E1.fh E1.hand)
  | false => exact Post.ok (show Post k W F1 H1 s1 (Ev.ok false s1) _ from q) (Ext.refl E1.fh E1.hand)
theorem q_allc {t u : T} {r : List T} {ea eb : Expr} {er : List Expr} {pos : Pos} (pa : PT X ea (tT k W Y t)) (pb : PW X (.BoolOp .And (eb :: er) pos) (tAll k W Y (u :: r))) : PW X (.BoolOp .And (ea :: eb :: er) pos) (tAll k W Y (t :: u :: r)) := by
  refine PWw (pw_and pa pb) fun σ H Q ⟨B, F, ρ, s, ok, q⟩ => ⟨B, F, ρ, s, ok, ?_⟩
  refine (Post.bnd (show Post k W F H s (bnd (evT Y t ρ s) _) _ from q)).mono fun x s1 F1 H1 E1 q => ?_
  cases x with
  | true => rw [if_pos rfl]; exact ⟨B, F1, ρ, s1, ok.next E1, q⟩
  | false => rw [if_neg Bool.false_ne_true]; exact Post.ok (show Post k W F1 H1 s1 (Ev.ok false s1) _ from q) (Ext.refl E1.fh E1.hand)
theorem q_anyc {t u : T} {r : List T} {ea eb : Expr} {er : List Expr} {pos : Pos} (pa : PT X ea (tT k W Y t)) (pb : PW X (.BoolOp .Or (eb :: er) pos) (tAny k W Y (u :: r))) : PW X (.BoolOp .Or (ea :: eb :: er) pos) (tAny k W Y (t :: u :: r)) := by
  refine PWw (pw_or pa pb) fun σ H Q ⟨B, F, ρ, s, ok, q⟩ => ⟨B, F, ρ, s, ok, ?_⟩
  refine (Post.bnd (show Post k W F H s (bnd (evT Y t ρ s) _) _ from q)).mono fun x s1 F1 H1 E1 q => ?_
  cases x with
  | true => rw [if_pos rfl]; exact Post.ok (show Post k W F1 H1 s1 (Ev.ok true s1) _ from q) (Ext.refl E1.fh E1.hand)
  | false => rw [if_neg Bool.false_ne_true]; exact ⟨B, F1, ρ, s1, ok.next E1, q⟩
theorem q_ite {t : T} {a b : C} {et ea eb : Expr} {pos : Pos} (pt : PT X et (tT k W Y t)) (pa : PE X ea (tE k W Y a)) (pb : PE X eb (tE k W Y b)) : PE X (.IfExp et ea eb pos) (tE k W Y (.ite t a b)) := by
  refine PEw (pe_ifExp pt pa pb) fun σ H Q ⟨B, F, ρ, s, ok, q⟩ => ⟨B, F, ρ, s, ok, ?_⟩
  refine (Post.bnd (show Post k W F H s (bnd (evT Y t ρ s) _) _ from q)).mono fun x s1 F1 H1 E1 q => ?_
  cases x with
  | true => rw [if_pos rfl]; exact ⟨B, F1, ρ, s1, ok.next E1, q⟩
  | false => rw [if_neg Bool.false_ne_true]; exact ⟨B, F1, ρ, s1, ok.next E1, q⟩
end
/-! ### subscripts, slices, attributes, calls -/
/-- an operation whose answer stands already -/
def rS2 (k : Kx) (f : D → D → Option D) : R2 := fun v w H Q => ∃ F s x y d, Same F H ∧ HandOk k F H s ∧ RepB k F H s v x ∧ RepB k F H s w y ∧ f x y = some d ∧ ∀ v' F' H', Ext k F H s F' H' s → Rep k F' v' d → Q v' H'
section
variable {k : Kx} {P : Pg} {n : Nat} {c : Ck} {W : XK} {X : Cx} {Y : Cf}
theorem ix_eq {xs : List V} {i : Int} {m : Nat} (e : xs.length = m) : ixN xs.length i = ixD m i := by rw [e]; rfl
theorem ixR_of {r r' : R2} (o : IxR X r) (h : ∀ x y H Q, r' x y H Q → r x y H Q) : IxR X r' := fun value slice pins s σ H x y v u Q I rx ry q => o value slice pins s σ H x y v u Q I rx ry (h x y H Q q)
theorem at_rep {F : Hp} {xs : List V} {ds : List D} {i : Int} {d : D} (r : Reps k F xs ds) (e : (ixD ds.length i).bind (fun j => ds[j]?) = some d) : ∃ v, atI xs i = some v ∧ Rep k F v d := by
  obtain ⟨j, e1, e2⟩ := Option.bind_eq_some_iff.mp e
  obtain ⟨v, e3, r3⟩ := r.get e2
  refine ⟨v, ?_, r3⟩
  unfold atI
  rw [ix_eq r.length, e1]
  exact e3
theorem sub_ok (hK : X.K = k.K) (hw : X.w = k.w) (hu : X.A.units + 65 < cLine) : IxR X (rS2 k subD) := by
  refine ixR_of (IxR.or ix_seq (ix_N hK hw hu)) fun x y H Q ⟨F, s, a, b, d, fh, hd, ra, rb, e, h⟩ => ?_
  cases a <;> first | (cases e; done) | skip
  case lst ds =>
    cases b <;> first | (cases e; done) | skip
    rename_i i
    obtain ⟨p, xs, rfl, h1, r1⟩ := ra.lst fh
    rw [repB_int rb]
    obtain ⟨v, e1, r2⟩ := at_rep r1 (show (ixD ds.length i).bind (fun j => ds[j]?) = some d from e)
    exact .inl (.inl ⟨p, xs, i, v, rfl, rfl, SqL.of h1, e1, h _ _ _ (Ext.refl fh hd) r2⟩)
  case tup ds =>
    cases b <;> first | (cases e; done) | skip
    rename_i i
    obtain ⟨p, xs, rfl, h1, r1⟩ := repB_tup ra
    rw [repB_int rb]
    obtain ⟨v, e1, r2⟩ := at_rep r1 (show (ixD ds.length i).bind (fun j => ds[j]?) = some d from e)
    exact .inl (.inr (.inl ⟨p, xs, i, v, rfl, rfl, by rw [hK]; exact sameT fh h1, e1, h _ _ _ (Ext.refl fh hd) r2⟩))
  case dct kvs =>
    obtain ⟨g, e⟩ := ifsome (c := (nkT b).isSome) (show (if (nkT b).isSome = true then dLook kvs b else none) = some d from e)
    obtain ⟨n, g⟩ := Option.isSome_iff_exists.mp g
    obtain ⟨p, kas, e1, h1, r1⟩ := ra.dct fh
    exact .inr ⟨F, p, kas, kvs, b, n, d, fh, e1, h1, r1, rb.rep (nkT_own g), g, e, fun z r => h _ _ _ (Ext.refl fh hd) r⟩
theorem q_sub (g : Good k P n c W X) {a i : C} {ea ei : Expr} {pos : Pos} (pa : PE X ea (tB k W Y a)) (pi : PE X ei (tE k W Y i)) (hp : plainB ei = true) : PE X (.Subscript ea ei pos) (tE k W Y (.sub a i)) := by
  refine PEw (pe_ix (sub_ok g.hK g.hw (g.u65)) pa pi (ix_plain hp)) fun σ H Q ⟨B, F, ρ, s, ok, q⟩ => ⟨B, F, ρ, s, ok, ?_⟩
  refine (Post.bnd (show Post k W F H s (bnd (bor a ρ s (evE Y a ρ s)) _) _ from q)).mono fun x s1 F1 H1 E1 q v r => ⟨B, F1, ρ, s1, ok.next E1, ?_⟩
  refine (Post.bnd q).mono fun y s2 F2 H2 E2 q w r2 => ?_
  obtain ⟨d, e, q⟩ := Post.lift q
  exact ⟨F2, s2, x, y, d, E2.fh, E2.hand, r.ext E2, .inl r2, e, fun v' F' H' E' r' => q F' H' E' v' r'⟩
def rSlD (k : Kx) : V → Option Int → Option Int → Hp → VK → Prop := fun v lo hi H Q => ∃ F s x d, Same F H ∧ HandOk k F H s ∧ RepB k F H s v x ∧ sliceD x lo hi = some d ∧ ∀ v' F' H', Ext k F H s F' H' s → RepF k H F' H' v' d → Q v' H'
theorem cut_rep {F : Hp} {xs : List V} {ds : List D} (r : Reps k F xs ds) (lo hi : Option Int) : Reps k F (cutV xs lo hi) (cutD ds lo hi) := by
  unfold cutV cutD
  rw [r.length]
  exact (r.drop _).take _
theorem cut_whole {ds : List D} {lo hi : Option Int} (h : sIxD ds.length 0 lo = 0 ∧ sIxD ds.length ds.length hi = ds.length) : cutD ds lo hi = ds := by
  unfold cutD
  rw [h.1, h.2]
  simp
theorem slR_of {r r' : V → Option Int → Option Int → Hp → VK → Prop} (o : SlR X r) (h : ∀ x lo hi H Q, r' x lo hi H Q → r x lo hi H Q) : SlR X r' := fun pins s σ H x v vl vu lo hi sl Q I rx hs pl pu q => o pins s σ H x v vl vu lo hi sl Q I rx hs pl pu (h x lo hi H Q q)
theorem slice_ok (hK : X.K = k.K) : SlR X (rSlD k) := by
  refine slR_of (SlR.or sl_list sl_tupA) fun x lo hi H Q ⟨F, s, a, d, fh, hd, ra, e, h⟩ => ?_
  cases a <;> first | (cases e; done) | skip
  case lst ds =>
    cases e
    obtain ⟨p, xs, rfl, h1, r1⟩ := ra.lst fh
    exact .inl ⟨p, xs, rfl, SqL.of h1, fun q nq => outL fh hd h (cut_rep r1 lo hi) nq⟩
  case tup ds =>
    cases e
    obtain ⟨p, xs, rfl, h1, r1⟩ := repB_tup ra
    refine .inr ⟨p, xs, rfl, by rw [hK]; exact sameT fh h1, fun w => ?_, fun _ q nq => outT fh hd h (cut_rep r1 lo hi) nq⟩
    have w : sIxD ds.length 0 lo = 0 ∧ sIxD ds.length ds.length hi = ds.length := by rw [r1.length] at w; exact w
    rw [cut_whole w] at h
    exact out0 fh hd h (.tup h1 r1) rfl
theorem q_pno : PO X none (tP k W Y none) := POw po_none fun σ H Q ⟨B, F, ρ, s, ok, q⟩ => q F H ok.self
theorem q_psome {a : C} {ea : Expr} (pa : PE X ea (tE k W Y a)) : PO X (some ea) (tP k W Y (some a)) := by
  refine POw (po_some pa) fun σ H Q ⟨B, F, ρ, s, ok, q⟩ => ⟨B, F, ρ, s, ok, ?_⟩
  refine (Post.bnd (show Post k W F H s (bnd (evE Y a ρ s) _) _ from q)).mono fun x s1 F1 H1 E1 q v r => ?_
  cases x <;> first | (exact q.elim) | skip
  rw [rep_int r]
  exact ⟨_, rfl, Post.ok q (Ext.refl E1.fh E1.hand)⟩
theorem q_slice (g : Good k P n c W X) {a : C} {lo hi : Option C} {ea : Expr} {el eh : Option Expr} {p2 pos : Pos} (pa : PE X ea (tB k W Y a)) (pl : PO X el (tP k W Y lo)) (ph : PO X eh (tP k W Y hi)) : PE X (.Subscript ea (.Slice el eh none p2) pos) (tN k W Y (.slice a lo hi)) := by
  refine PEw (pe_slice (slice_ok g.hK) pa pl ph) fun σ H Q ⟨B, F, ρ, s, ok, q⟩ => ⟨B, F, ρ, s, ok, ?_⟩
  refine (Post.bnd (show Post k W F H s (bnd (bor a ρ s (evE Y a ρ s)) _) _ from q)).mono fun x s1 F1 H1 E1 q v r => ⟨B, F1, ρ, s1, ok.next E1, ?_⟩
  refine (Post.bnd q).mono fun l s2 F2 H2 E2 q => ⟨B, F2, ρ, s2, (ok.next E1).next E2, ?_⟩
  refine (Post.bnd q).mono fun u s3 F3 H3 E3 q => ?_
  obtain ⟨d, e, q⟩ := Post.lift q
  exact ⟨F3, s3, x, d, E3.fh, E3.hand, (r.ext E2).ext E3, e, fun v' F' H' E' r' => q F' H' E' v' (r'.up fun p h => E1.hnone (E2.hnone (E3.hnone h)))⟩
theorem ix_look {F : Hp} {f : Str} : ∀ {fs : List (Str × V)} {ds : List D} {d : D}, Reps k F (fs.map (·.2)) ds → (ixOf f (fs.map (·.1))).bind (fun j => ds[j]?) = some d → ∃ v, fs.lookup f = some v ∧ Rep k F v d
  | [], _, d, r, e => by cases e
  | (x, v) :: fs, ds, d, r, e => by
    cases r with
    | cons r t =>
      simp only [List.map_cons] at e
      unfold ixOf at e
      by_cases q : f = x
      · rw [if_pos q] at e
        cases e
        refine ⟨v, ?_, r⟩
        rw [List.lookup_cons]
        simp [q]
      · rw [if_neg q] at e
        rw [List.lookup_cons]
        have q' : (f == x) = false := beq_eq_false_iff_ne.mpr q
        rw [q']
        refine ix_look t ?_
        cases z : ixOf f (fs.map (·.1)) with
        | none => rw [z] at e; cases e
        | some j => rw [z] at e; exact e
theorem ixOf_mem {f : Str} : ∀ {l : List Str} {j : Nat}, ixOf f l = some j → f ∈ l
  | [], _, e => by cases e
  | x :: l, j, e => by
    unfold ixOf at e
    by_cases q : f = x
    · rw [q]; exact List.mem_cons_self
    · rw [if_neg q] at e
      cases z : ixOf f l with
      | none => rw [z] at e; cases e
      | some i => exact List.mem_cons_of_mem _ (ixOf_mem z)
theorem q_attr (g : Good k P n c W X) {a : C} {f : Str} {ea : Expr} {pos : Pos} (pa : PE X ea (tE k W (cfOf P n) a)) (hp : plainB ea = true) : PE X (.Attribute ea f pos) (tE k W (cfOf P n) (.attr a f)) := by
  refine PEw (pe_fld pa (base_plain hp f _ _)) fun σ H Q ⟨B, F, ρ, s, ok, q⟩ => ⟨B, F, ρ, s, ok, ?_⟩
  refine (Post.bnd (show Post k W F H s (bnd (evE (cfOf P n) a ρ s) _) _ from q)).mono fun x s1 F1 H1 E1 q v r => ?_
  obtain ⟨d, e, q2⟩ := Post.lift q
  cases r <;> first | (cases e; done) | skip
  rename_i a C dx x fs ds hc hf hm hr
  have e : (ixOf f (P.fl x)).bind (fun j => ds[j]?) = some d := e
  rw [← g.fl, ← hm] at e
  obtain ⟨v, e1, r1⟩ := ix_look hr e
  obtain ⟨o1, o2⟩ := g.objs x C hc
  obtain ⟨j, e2, _⟩ := Option.bind_eq_some_iff.mp e
  exact ⟨a, C, dx, fs, v, rfl, E1.fh _ _ hf, o1, o2 f (by rw [← hm]; exact ixOf_mem e2), e1, q2 F1 H1 (Ext.refl E1.fh E1.hand) v r1⟩
theorem q_nil : PA X [] (tA k W Y []) := PAw pa_nil fun σ H Q ⟨B, F, ρ, s, ok, q⟩ => Post.ok (show Post k W F H s (Ev.ok [] s) _ from q) ok.self _ .nil
theorem q_cons {a : C} {as : List C} {ea : Expr} {es : List Expr} (pa : PE X ea (tE k W Y a)) (ps : PA X es (tA k W Y as)) (hp : plainB ea = true) : PA X (ea :: es) (tA k W Y (a :: as)) := by
  refine PAw (pa_cons pa ps (star1 hp es _)) fun σ H Q ⟨B, F, ρ, s, ok, q⟩ => ⟨B, F, ρ, s, ok, ?_⟩
  refine (Post.bnd (show Post k W F H s (bnd (evE Y a ρ s) _) _ from q)).mono fun x s1 F1 H1 E1 q v r => ⟨B, F1, ρ, s1, ok.next E1, ?_⟩
  refine (Post.bnd q).mono fun ds s2 F2 H2 E2 q vs r2 => ?_
  exact Post.ok (show Post k W F2 H2 s2 (Ev.ok (x :: ds) s2) _ from q) (Ext.refl E2.fh E2.hand) _ (.cons (Rep.mono E2.ff r) r2)
theorem q_nilB : PA X [] (tAB k W Y []) := PAw pa_nil fun σ H Q ⟨B, F, ρ, s, ok, q⟩ => Post.ok (show Post k W F H s (Ev.ok [] s) _ from q) ok.self _ .nil
theorem RepsB.ext {F H F' H' : Hp} {s s' : St} (E : Ext k F H s F' H' s') : ∀ {vs : List V} {ds : List D}, RepsB k F H s vs ds → RepsB k F' H' s' vs ds
  | _, _, .nil => .nil
  | _, _, .cons r t => .cons (r.ext E) (RepsB.ext E t)
theorem q_consB {a : C} {as : List C} {ea : Expr} {es : List Expr} (pa : PE X ea (tB k W Y a)) (ps : PA X es (tAB k W Y as)) (hp : plainB ea = true) : PA X (ea :: es) (tAB k W Y (a :: as)) := by
  refine PAw (pa_cons pa ps (star1 hp es _)) fun σ H Q ⟨B, F, ρ, s, ok, q⟩ => ⟨B, F, ρ, s, ok, ?_⟩
  refine (Post.bnd (show Post k W F H s (bnd (bor a ρ s (evE Y a ρ s)) _) _ from q)).mono fun x s1 F1 H1 E1 q v r => ⟨B, F1, ρ, s1, ok.next E1, ?_⟩
  refine (Post.bnd q).mono fun ds s2 F2 H2 E2 q vs r2 => ?_
  exact Post.ok (show Post k W F2 H2 s2 (Ev.ok (x :: ds) s2) _ from q) (Ext.refl E2.fh E2.hand) _ (.cons (r.ext E2) r2)
theorem q_call (g : Good k P n c W X) (hh : c.hot = false) {f : Str} {a : Addr} {ts : List C} {e : Expr} {es : List Expr} {p pos : Pos} (ha : k.fns f = some a) (hg : glB c f = true) (ho : okN f = true) (pa : PA X (e :: es) (tA k W (cfOf P n) ts)) (hp : (e :: es).all plainB = true) : PE X (.Call (.Name f p) (e :: es) [] pos) (tE k W (cfOf P n) (.call f ts)) := by
  obtain ⟨fd, ps, F0, hm, kp, hb, ar⟩ := g.calls n (Nat.le_refl n) f a ha
  rw [List.all_cons, Bool.and_eq_true] at hp
  refine PEw (pe_callS F0 (g.room hh) (g.glob hg) hm kp hb (fun σ => passAt g.tk σ) pa (okN_d ho).1 (star1 hp.1 es _) (stars hp.2 pos _)) fun σ H Q ⟨B, F, ρ, s, ok, q⟩ => ⟨B, F, ρ, s, ok, ?_⟩
  refine (Post.bnd (show Post k W F H s (bnd (evEs (cfOf P n) ts ρ s) _) _ from q)).mono fun ds s1 F1 H1 E1 q vs r => ?_
  have q : Post k W F1 H1 s1 (Ev.call P n f ds s1) _ := q
  refine ⟨?_, F1, s1, ds, E1.fh, E1.hand, r, q⟩
  rw [r.length]
  refine ar ds s1 fun z => ?_
  rw [z] at q
  exact q
end
end Ev
set_option maxHeartbeats 4000000
/-! EvBlt: built-in functions by the evaluator's word. -/
namespace Ev
open PySem PySem.Spec PyProof.Rows L2
def rB (k : Kx) (f : List D → Option D) : List V → Hp → VK → Prop := fun vs H Q => ∃ F s ds d, Same F H ∧ HandOk k F H s ∧ RepsB k F H s vs ds ∧ f ds = some d ∧ ∀ v' F' H', Ext k F H s F' H' s → RepF k H F' H' v' d → Q v' H'
theorem callR_of {X : Cx} {f : Value} {r r' : List V → Hp → VK → Prop} (o : CallR X f r) (h : ∀ x H Q, r' x H Q → r x H Q) : CallR X f r' := fun pins s σ H xs us Q I rv q => o pins s σ H xs us Q I rv (h xs H Q q)
section
variable {k : Kx} {X : Cx} {F H : Hp} {s : St}
theorem repsB_1 {vs : List V} {d : D} (h : RepsB k F H s vs [d]) : ∃ v, vs = [v] ∧ RepB k F H s v d := by
  cases h with
  | cons r t => cases t; exact ⟨_, rfl, r⟩
theorem repsB_2 {vs : List V} {d e : D} (h : RepsB k F H s vs [d, e]) : ∃ v w, vs = [v, w] ∧ RepB k F H s v d ∧ RepB k F H s w e := by
  cases h with
  | cons r t =>
    obtain ⟨w, rfl, r2⟩ := repsB_1 t
    exact ⟨_, w, rfl, r, r2⟩
theorem reps_ints : ∀ {vs : List V} {ds : List D} {ns : List Int}, Reps k F vs ds → intsD ds = some ns → vs = ns.map V.int
  | _, _, ns, .nil, e => by cases e; rfl
  | _, d :: ds, ns, .cons r t, e => by
    cases d <;> first | (cases e; done) | skip
    rename_i i
    unfold intsD at e
    cases q : intsD ds with
    | none => rw [q] at e; cases e
    | some ms =>
      rw [q] at e
      cases e
      rw [rep_int r, reps_ints t q]
      rfl
theorem reps_bools : ∀ {vs : List V} {ds : List D} {ns : List Bool}, Reps k F vs ds → bools ds = some ns → vs = ns.map V.bl
  | _, _, ns, .nil, e => by cases e; rfl
  | _, d :: ds, ns, .cons r t, e => by
    cases d <;> first | (cases e; done) | skip
    rename_i i
    unfold bools at e
    cases q : bools ds with
    | none => rw [q] at e; cases e
    | some ms =>
      rw [q] at e
      cases e
      rw [rep_bl r, reps_bools t q]
      rfl
theorem ints_reps : ∀ ns : List Int, Reps k F (ns.map V.int) (ns.map D.int)
  | [] => .nil
  | n :: ns => .cons (.int n) (ints_reps ns)
theorem maxI_spec : ∀ {ns : List Int} {m x : Int}, maxI ns = some m → x ∈ ns → (∀ y ∈ ns, y ≤ x) → x = m
  | [], m, x, e, _, _ => by cases e
  | [a], m, x, e, h, _ => by cases e; simpa using h
  | a :: b :: r, m, x, e, h, hl => by
    have e' : (maxI (b :: r)).map (fun m => if a ≥ m then a else m) = some m := e
    obtain ⟨m', e1, e2⟩ := Option.map_eq_some_iff.mp e'
    have hm : m' ∈ b :: r := maxI_mem e1
    have hm2 : ∀ y ∈ b :: r, y ≤ m' := maxI_le e1
    have h1 := hl a List.mem_cons_self
    have h2 := hl m' (List.mem_cons_of_mem _ hm)
    rcases List.mem_cons.mp h with rfl | h
    · split at e2 <;> omega
    · have := hm2 x h
      split at e2 <;> omega
where
  maxI_mem : ∀ {ns : List Int} {m : Int}, maxI ns = some m → m ∈ ns
  | [], m, e => by cases e
  | [a], m, e => by cases e; simp
  | a :: b :: r, m, e => by
    have e' : (maxI (b :: r)).map (fun m => if a ≥ m then a else m) = some m := e
    obtain ⟨m', e1, e2⟩ := Option.map_eq_some_iff.mp e'
    split at e2
    · subst e2; exact List.mem_cons_self
    · subst e2; exact List.mem_cons_of_mem _ (maxI_mem e1)
  maxI_le : ∀ {ns : List Int} {m : Int}, maxI ns = some m → ∀ y ∈ ns, y ≤ m
  | [], m, e => by cases e
  | [a], m, e => by cases e; simp
  | a :: b :: r, m, e => by
    have e' : (maxI (b :: r)).map (fun m => if a ≥ m then a else m) = some m := e
    obtain ⟨m', e1, e2⟩ := Option.map_eq_some_iff.mp e'
    intro y hy
    rcases List.mem_cons.mp hy with rfl | hy
    · split at e2 <;> omega
    · have := maxI_le e1 y hy
      split at e2 <;> omega
theorem minI_spec : ∀ {ns : List Int} {m x : Int}, minI ns = some m → x ∈ ns → (∀ y ∈ ns, x ≤ y) → x = m
  | [], m, x, e, _, _ => by cases e
  | [a], m, x, e, h, _ => by cases e; simpa using h
  | a :: b :: r, m, x, e, h, hl => by
    have e' : (minI (b :: r)).map (fun m => if a ≤ m then a else m) = some m := e
    obtain ⟨m', e1, e2⟩ := Option.map_eq_some_iff.mp e'
    have hm : m' ∈ b :: r := minI_mem e1
    have hm2 : ∀ y ∈ b :: r, m' ≤ y := minI_le e1
    have h1 := hl a List.mem_cons_self
    have h2 := hl m' (List.mem_cons_of_mem _ hm)
    rcases List.mem_cons.mp h with rfl | h
    · split at e2 <;> omega
    · have := hm2 x h
      split at e2 <;> omega
where
  minI_mem : ∀ {ns : List Int} {m : Int}, minI ns = some m → m ∈ ns
  | [], m, e => by cases e
  | [a], m, e => by cases e; simp
  | a :: b :: r, m, e => by
    have e' : (minI (b :: r)).map (fun m => if a ≤ m then a else m) = some m := e
    obtain ⟨m', e1, e2⟩ := Option.map_eq_some_iff.mp e'
    split at e2
    · subst e2; exact List.mem_cons_self
    · subst e2; exact List.mem_cons_of_mem _ (minI_mem e1)
  minI_le : ∀ {ns : List Int} {m : Int}, minI ns = some m → ∀ y ∈ ns, m ≤ y
  | [], m, e => by cases e
  | [a], m, e => by cases e; simp
  | a :: b :: r, m, e => by
    have e' : (minI (b :: r)).map (fun m => if a ≤ m then a else m) = some m := e
    obtain ⟨m', e1, e2⟩ := Option.map_eq_some_iff.mp e'
    intro y hy
    rcases List.mem_cons.mp hy with rfl | hy
    · split at e2 <;> omega
    · have := minI_le e1 y hy
      split at e2 <;> omega
theorem maxI_ne {ns : List Int} {m : Int} (h : maxI ns = some m) : 0 < ns.length := by cases ns with | nil => cases h | cons _ _ => exact Nat.succ_pos _
theorem minI_ne {ns : List Int} {m : Int} (h : minI ns = some m) : 0 < ns.length := by cases ns with | nil => cases h | cons _ _ => exact Nat.succ_pos _
theorem insI_perm (a : Int) : ∀ l : List Int, (insI a l).Perm (a :: l)
  | [] => .refl _
  | b :: r => by
    unfold insI
    split
    · exact .refl _
    · exact ((insI_perm a r).cons b).trans (.swap a b r)
theorem sortI_perm : ∀ l : List Int, (sortI l).Perm l
  | [] => .refl _
  | a :: r => (insI_perm a (sortI r)).trans ((sortI_perm r).cons a)
theorem insI_pw (a : Int) : ∀ l : List Int, l.Pairwise (· ≤ ·) → (insI a l).Pairwise (· ≤ ·)
  | [], _ => List.pairwise_singleton _ _
  | b :: r, h => by
    have h' := List.pairwise_cons.mp h
    unfold insI
    split
    · rename_i hab
      refine List.pairwise_cons.mpr ⟨fun y hy => ?_, h⟩
      rcases List.mem_cons.mp hy with rfl | hy
      · exact hab
      · have := h'.1 y hy; omega
    · rename_i hab
      refine List.pairwise_cons.mpr ⟨fun y hy => ?_, insI_pw a r h'.2⟩
      rcases List.mem_cons.mp ((insI_perm a r).mem_iff.mp hy) with rfl | hy
      · omega
      · exact h'.1 y hy
theorem sortI_pw : ∀ l : List Int, (sortI l).Pairwise (· ≤ ·)
  | [] => .nil
  | a :: r => insI_pw a _ (sortI_pw r)
theorem sorted_unique {l m : List Int} (p : l.Perm m) (h1 : l.Pairwise (· ≤ ·)) (h2 : m.Pairwise (· ≤ ·)) : l = m :=
  p.eq_of_pairwise (fun a b _ _ h1 h2 => Int.le_antisymm h1 h2) h1 h2
end
/-! ### len, list of a dict whose keys are tuples -/
section
variable {k : Kx} {X : Cx}
theorem cr_lenN (hK : X.K = k.K) (hw : X.w = k.w) : CallR X (.builtin "len") (fun vs H Q => ∃ F p kas kvs, vs = [.ref p] ∧ Same F H ∧ H p = some (nestO k.w p kas) ∧ RepN k F kas kvs ∧ Q (.int kvs.length) H) := by
  intro pins s σ H xs us Q I r ⟨F, p, kas, kvs, e0, fh, h1, h2, q⟩
  subst e0
  obtain ⟨u, rfl, ru⟩ := vals1 r
  cases (show _ = _ from ru)
  obtain ⟨z, hd, xs, pr, dd⟩ := dict_of I hK hw fh h1 h2
  have l1 := Paired.length pr
  have l2 : kas.length = kvs.length := by
    clear h1 pr l1 q z
    induction kas generalizing kvs with
    | nil => cases h2; rfl
    | cons a as ih => cases h2 with | cons _ _ _ t => simp [ih _ t]
  have hs : sizeLine = 16777216 := sizeLine_eq
  refine call_len_dictH hd dd (by omega) ?_
  exact ⟨.int xs.length, _, I.tok _, ⟨_, rfl⟩, by rw [← l1, l2]; exact q⟩
theorem RepN.keys {F : Hp} : ∀ {kas : List (NestedKey × Addr × V)} {kvs : List (D × D)}, RepN k F kas kvs → Reps k F (kas.map fun x => V.ref x.2.1) (kvs.map (·.1))
  | _, _, .nil => .nil
  | _, _, .cons _ rb _ t => .cons rb (RepN.keys t)
theorem keys_vals {kas : List (NestedKey × Addr × V)} {xs : List (NestedKey × Addr × Value)} (pr : Paired NP kas xs) : Vals (kas.map fun x => V.ref x.2.1) (xs.map fun x => Value.ref x.2.1) := by
  induction pr with
  | nil => exact .nil
  | cons p q ih => exact .cons (by show Value.ref _ = Value.ref _; rw [p.2.1]) ih
theorem cr_listN (hK : X.K = k.K) (hw : X.w = k.w) (hc : X.calm = true) : CallR X (.type "list") (fun vs H Q => ∃ F p kas kvs, vs = [.ref p] ∧ Same F H ∧ H p = some (nestO k.w p kas) ∧ RepN k F kas kvs ∧ ∀ l, H l = none → Q (.ref l) (upd H l (.lst (kas.map fun x => V.ref x.2.1)))) := by
  intro pins s σ H xs us Q I r ⟨F, p, kas, kvs, e0, fh, h1, h2, q⟩
  subst e0
  obtain ⟨u, rfl, ru⟩ := vals1 r
  cases (show _ = _ from ru)
  obtain ⟨z, hd, xs, pr, dd⟩ := dict_of I hK hw fh h1 h2
  have l1 := Paired.length pr
  obtain ⟨es, ep, hr, hsz, he⟩ := dd.raw
  refine PySem.W.kdl_call (PySem.KdlSrc.rawDict (es := es) (ep := ep) hd) (I.ok.hd hc) hr (by omega) fun h' tk acc c' hk hD hacc => ?_
  have ha : acc.toList = xs.map fun x => Value.ref x.2.1 := by
    apply List.ext_getElem?
    intro j
    by_cases hj : j < es.size
    · have hj2 : j < acc.size := by rw [hacc.1]; exact hj
      obtain ⟨y, hy, k1, k2, k3⟩ := he j hj
      obtain ⟨_, e⟩ := hacc.2 j acc[j] (by simp [hj2])
      rw [List.getElem?_map, hy, Array.getElem?_toList, Array.getElem?_eq_getElem hj2, e, k1]
      rfl
    · rw [List.getElem?_eq_none (by rw [Array.length_toList, hacc.1]; omega), List.getElem?_eq_none (by rw [List.length_map]; omega)]
  refine ⟨.ref s.heap.objs.size, upd H s.heap.objs.size (.lst (kas.map fun x => V.ref x.2.1)), I.laid (t' := tk) hk (Nat.le_refl _)
    (show ObjOk X.prog X.w _ _ _ (.lst _) from ⟨by rw [List.length_map]; exact z, acc.toList, c', by rw [ha]; exact keys_vals pr, by rw [Array.toArray_toList]; exact hD⟩), rfl, q _ (I.hok.fresh (Nat.le_refl _))⟩
end
def bltOf : Blt → Option (Str × Value)
  | .len => some ("len", .builtin "len") | .abs => some ("abs", .builtin "abs") | .int => some ("int", .type "int") | .tuple => some ("tuple", .type "tuple") | .list => some ("list", .type "list")
  | .sum => some ("sum", .builtin "sum") | .all => some ("all", .builtin "all") | .any => some ("any", .builtin "any") | .min2 => some ("min", .builtin "min") | .max2 => some ("max", .builtin "max")
  | .min1 => some ("min", .builtin "min") | .max1 => some ("max", .builtin "max") | .repr => some ("repr", .builtin "repr") | .sorted => some ("sorted", .builtin "sorted")
  | _ => none
section
variable {k : Kx} {X : Cx}
theorem out0F {F H : Hp} {s : St} {Q : VK} {v : V} {d : D} (fh : Same F H) (hd : HandOk k F H s) (h : ∀ v' F' H', Ext k F H s F' H' s → RepF k H F' H' v' d → Q v' H') (r : Rep k F v d) (n : ownB d = false) : Q v H := out0 fh hd h r n
theorem blt_ok (hK : X.K = k.K) (hw : X.w = k.w) (hc : X.calm = true) (b : Blt) (f : Str × Value) (hb : bltOf b = some f) : CallR X f.2 (rB k (bltD b)) := by
  cases b <;> first | (cases hb; done) | skip
  case len =>
    cases hb
    refine callR_of (CallR.or call_len (cr_lenN hK hw)) fun vs H Q ⟨F, s, ds, d, fh, hd, ra, e, h⟩ => ?_
    match ds, e with
    | [a], e =>
      obtain ⟨v, rfl, r⟩ := repsB_1 ra
      cases a <;> first | (cases e; done) | skip
      case str x =>
        obtain ⟨g, rfl⟩ := guardD_some e
        rw [repB_str r]
        exact .inl ⟨_, x.length, rfl, ⟨lim_line (of_decide_eq_true g), rfl⟩, out0 fh hd h (.int _) rfl⟩
      case tup xs =>
        cases e
        obtain ⟨p, us, rfl, h1, r1⟩ := repB_tup r
        exact .inl ⟨_, us.length, rfl, .inr ⟨us, by rw [hK]; exact sameT fh h1, rfl⟩, by rw [r1.length]; exact out0 fh hd h (.int _) rfl⟩
      case lst xs =>
        cases e
        obtain ⟨p, us, rfl, h1, r1⟩ := r.lst fh
        exact .inl ⟨_, us.length, rfl, .inl ⟨us, SqL.of h1, rfl⟩, by rw [r1.length]; exact out0 fh hd h (.int _) rfl⟩
      case dct kvs =>
        cases e
        obtain ⟨p, kas, rfl, h1, r1⟩ := r.dct fh
        exact .inr ⟨F, p, kas, kvs, rfl, fh, h1, r1, out0 fh hd h (.int _) rfl⟩
    | [], e => cases e
    | a :: b :: r, e => cases a <;> cases e
  case abs =>
    cases hb
    refine callR_of call_abs fun vs H Q ⟨F, s, ds, d, fh, hd, ra, e, h⟩ => ?_
    match ds, e with
    | [a], e =>
      obtain ⟨v, rfl, r⟩ := repsB_1 ra
      cases a <;> first | (cases e; done) | skip
      cases e
      rw [repB_int r]
      exact ⟨_, rfl, out0 fh hd h (.int _) rfl⟩
    | [], e => cases e
    | a :: b :: r, e => cases a <;> cases e
  case int =>
    cases hb
    refine callR_of call_int1 fun vs H Q ⟨F, s, ds, d, fh, hd, ra, e, h⟩ => ?_
    match ds, e with
    | [a], e =>
      obtain ⟨v, rfl, r⟩ := repsB_1 ra
      cases a <;> first | (cases e; done) | skip
      case int i => cases e; rw [repB_int r]; exact .inl ⟨_, rfl, out0 fh hd h (.int _) rfl⟩
      case bl i => cases e; rw [repB_bl r]; exact .inr ⟨_, rfl, out0 fh hd h (.int _) rfl⟩
    | [], e => cases e
    | a :: b :: r, e => cases a <;> cases e
  case tuple =>
    cases hb
    refine callR_of call_tuple_of fun vs H Q ⟨F, s, ds, d, fh, hd, ra, e, h⟩ => ?_
    match ds, e with
    | [a], e =>
      obtain ⟨v, rfl, r⟩ := repsB_1 ra
      cases a <;> first | (cases e; done) | skip
      case lst xs =>
        cases e
        obtain ⟨p, us, rfl, h1, r1⟩ := r.lst fh
        exact ⟨p, us, rfl, .inl ⟨SqL.of h1, fun l hl => outT fh hd h r1 hl⟩⟩
      case tup xs =>
        cases e
        obtain ⟨p, us, rfl, h1, r1⟩ := repB_tup r
        exact ⟨p, us, rfl, .inr ⟨by rw [hK]; exact sameT fh h1, out0 fh hd h (.tup h1 r1) rfl⟩⟩
    | [], e => cases e
    | a :: b :: r, e => cases a <;> cases e
  case list =>
    cases hb
    refine callR_of (CallR.or call_list_of (cr_listN hK hw hc)) fun vs H Q ⟨F, s, ds, d, fh, hd, ra, e, h⟩ => ?_
    match ds, e with
    | [a], e =>
      obtain ⟨v, rfl, r⟩ := repsB_1 ra
      cases a <;> first | (cases e; done) | skip
      case lst xs =>
        cases e
        obtain ⟨p, us, rfl, h1, r1⟩ := r.lst fh
        exact .inl ⟨p, us, rfl, .inl (SqL.of h1), fun l hl => outL fh hd h r1 hl⟩
      case tup xs =>
        cases e
        obtain ⟨p, us, rfl, h1, r1⟩ := repB_tup r
        exact .inl ⟨p, us, rfl, .inr (by rw [hK]; exact sameT fh h1), fun l hl => outL fh hd h r1 hl⟩
      case dct kvs =>
        cases e
        obtain ⟨p, kas, rfl, h1, r1⟩ := r.dct fh
        exact .inr ⟨F, p, kas, kvs, rfl, fh, h1, r1, fun l hl => outL fh hd h r1.keys hl⟩
    | [], e => cases e
    | a :: b :: r, e => cases a <;> cases e
  case sum =>
    cases hb
    refine callR_of (cr_sum hc) fun vs H Q ⟨F, s, ds, d, fh, hd, ra, e, h⟩ => ?_
    match ds, e with
    | [a], e =>
      obtain ⟨v, rfl, r⟩ := repsB_1 ra
      cases a <;> first | (cases e; done) | skip
      rename_i xs
      obtain ⟨ns, e1, rfl⟩ := Option.map_eq_some_iff.mp (show (intsD xs).map _ = some d from e)
      obtain ⟨p, us, rfl, h1, r1⟩ := r.lst fh
      exact ⟨p, ns, rfl, SqL.of (by rw [h1, reps_ints r1 e1]), out0 fh hd h (.int _) rfl⟩
    | [], e => cases e
    | a :: b :: r, e => cases a <;> cases e
  case all =>
    cases hb
    refine callR_of (cr_all hc) fun vs H Q ⟨F, s, ds, d, fh, hd, ra, e, h⟩ => ?_
    match ds, e with
    | [a], e =>
      obtain ⟨v, rfl, r⟩ := repsB_1 ra
      cases a <;> first | (cases e; done) | skip
      rename_i xs
      obtain ⟨ns, e1, rfl⟩ := Option.map_eq_some_iff.mp (show (bools xs).map _ = some d from e)
      obtain ⟨p, us, rfl, h1, r1⟩ := r.lst fh
      exact ⟨p, ns, rfl, SqL.of (by rw [h1, reps_bools r1 e1]), out0 fh hd h (.bl _) rfl⟩
    | [], e => cases e
    | a :: b :: r, e => cases a <;> cases e
  case any =>
    cases hb
    refine callR_of (cr_any hc) fun vs H Q ⟨F, s, ds, d, fh, hd, ra, e, h⟩ => ?_
    match ds, e with
    | [a], e =>
      obtain ⟨v, rfl, r⟩ := repsB_1 ra
      cases a <;> first | (cases e; done) | skip
      rename_i xs
      obtain ⟨ns, e1, rfl⟩ := Option.map_eq_some_iff.mp (show (bools xs).map _ = some d from e)
      obtain ⟨p, us, rfl, h1, r1⟩ := r.lst fh
      exact ⟨p, ns, rfl, SqL.of (by rw [h1, reps_bools r1 e1]), out0 fh hd h (.bl _) rfl⟩
    | [], e => cases e
    | a :: b :: r, e => cases a <;> cases e
  case min2 =>
    cases hb
    refine callR_of (call_min2 hc) fun vs H Q ⟨F, s, ds, d, fh, hd, ra, e, h⟩ => ?_
    match ds, e with
    | [a, b], e =>
      obtain ⟨v, w, rfl, r, r2⟩ := repsB_2 ra
      cases a <;> first | (cases e; done) | skip
      cases b <;> first | (cases e; done) | skip
      cases e
      rw [repB_int r, repB_int r2]
      exact ⟨_, _, rfl, out0 fh hd h (.int _) rfl⟩
    | [], e => cases e
    | [a], e => cases a <;> cases e
    | a :: b :: c :: r, e => cases a <;> cases b <;> cases e
  case max2 =>
    cases hb
    refine callR_of (call_max2 hc) fun vs H Q ⟨F, s, ds, d, fh, hd, ra, e, h⟩ => ?_
    match ds, e with
    | [a, b], e =>
      obtain ⟨v, w, rfl, r, r2⟩ := repsB_2 ra
      cases a <;> first | (cases e; done) | skip
      cases b <;> first | (cases e; done) | skip
      cases e
      rw [repB_int r, repB_int r2]
      exact ⟨_, _, rfl, out0 fh hd h (.int _) rfl⟩
    | [], e => cases e
    | [a], e => cases a <;> cases e
    | a :: b :: c :: r, e => cases a <;> cases b <;> cases e
  case min1 =>
    cases hb
    refine callR_of (cr_min hc) fun vs H Q ⟨F, s, ds, d, fh, hd, ra, e, h⟩ => ?_
    match ds, e with
    | [a], e =>
      obtain ⟨v, rfl, r⟩ := repsB_1 ra
      cases a <;> first | (cases e; done) | skip
      rename_i xs
      obtain ⟨ns, e1, e2⟩ := Option.bind_eq_some_iff.mp (show (intsD xs).bind _ = some d from e)
      obtain ⟨m, e3, rfl⟩ := Option.map_eq_some_iff.mp e2
      obtain ⟨p, us, rfl, h1, r1⟩ := r.lst fh
      exact ⟨p, ns, rfl, SqL.of (by rw [h1, reps_ints r1 e1]), minI_ne e3, fun x hx hl => by rw [minI_spec e3 hx hl]; exact out0 fh hd h (.int _) rfl⟩
    | [], e => cases e
    | a :: b :: r, e => cases a <;> cases e
  case max1 =>
    cases hb
    refine callR_of (cr_max hc) fun vs H Q ⟨F, s, ds, d, fh, hd, ra, e, h⟩ => ?_
    match ds, e with
    | [a], e =>
      obtain ⟨v, rfl, r⟩ := repsB_1 ra
      cases a <;> first | (cases e; done) | skip
      rename_i xs
      obtain ⟨ns, e1, e2⟩ := Option.bind_eq_some_iff.mp (show (intsD xs).bind _ = some d from e)
      obtain ⟨m, e3, rfl⟩ := Option.map_eq_some_iff.mp e2
      obtain ⟨p, us, rfl, h1, r1⟩ := r.lst fh
      exact ⟨p, ns, rfl, SqL.of (by rw [h1, reps_ints r1 e1]), maxI_ne e3, fun x hx hl => by rw [maxI_spec e3 hx hl]; exact out0 fh hd h (.int _) rfl⟩
    | [], e => cases e
    | a :: b :: r, e => cases a <;> cases e
  case repr =>
    cases hb
    refine callR_of SkE.call_repr_int fun vs H Q ⟨F, s, ds, d, fh, hd, ra, e, h⟩ => ?_
    match ds, e with
    | [a], e =>
      obtain ⟨v, rfl, r⟩ := repsB_1 ra
      cases a <;> first | (cases e; done) | skip
      rename_i i
      obtain ⟨g, rfl⟩ := guardD_some e
      rw [repB_int r]
      exact ⟨i, rfl, of_decide_eq_true g, out0 fh hd h (.str _) rfl⟩
    | [], e => cases e
    | a :: b :: r, e => cases a <;> cases e
  case sorted =>
    cases hb
    refine callR_of cr_sortedI fun vs H Q ⟨F, s, ds, d, fh, hd, ra, e, h⟩ => ?_
    match ds, e with
    | [a], e =>
      obtain ⟨v, rfl, r⟩ := repsB_1 ra
      cases a <;> first | (cases e; done) | skip
      rename_i xs
      obtain ⟨ns, e1, rfl⟩ := Option.map_eq_some_iff.mp (show (intsD xs).map _ = some d from e)
      obtain ⟨p, us, rfl, h1, r1⟩ := r.lst fh
      refine ⟨p, ns, rfl, SqL.of (by rw [h1, reps_ints r1 e1]), fun ns' l pm pw hl => ?_⟩
      rw [sorted_unique (pm.trans (sortI_perm ns).symm) pw (sortI_pw ns)]
      exact outL fh hd h (ints_reps _) hl
    | [], e => cases e
    | a :: b :: r, e => cases a <;> cases e
end
end Ev
set_option maxHeartbeats 4000000
/-! EvIter: what is walked, comprehensions. -/
namespace Ev
open PySem PySem.Spec PyProof.Rows L2
/-! ### a list or a tuple, by its value -/
def iAny (K : PySem.W.Frag) (tl : TE) : TI := fun σ H R => tl σ H fun x H1 => ∃ a, x = .ref a ∧ (((∃ xs, SqL K H1 a xs) ∧ R (Itl K a) H1) ∨ ((∃ xs, SqT K H1 a xs) ∧ R (Itt K a) H1))
theorem pi_any {X : Cx} {tg l : Expr} {tl : TE} (hl : PE X l tl) : PI X tg l (iAny X.K tl) := by
  refine ⟨fun pins s σ H R I h => ?_⟩
  refine thn (hl.run pins s σ H _ I h) fun v s1 ⟨x, H1, I1, r1, q1⟩ => ?_
  obtain ⟨a, e, q1⟩ := q1
  subst e
  cases r1
  rcases q1 with ⟨⟨xs, hq⟩, q⟩ | ⟨⟨xs, hq⟩, q⟩
  · obtain ⟨its, rv, p, hz⟩ := I1.list hq
    refine wpAny_pyIter_list p.isList ?_
    refine ⟨s1.heap.objs.size, [s1.heap.objs.size], _, _, H1, rfl, I1.kept (t' := s1.toks) fun b o e => Heap.get?_push_of_some _ e, turn_list a _, ⟨_, Heap.get?_push_size _ rfl, rfl, rfl⟩, fun b hb => ?_, q⟩
    have e : b = s1.heap.objs.size := by simpa using hb
    subst e
    exact I1.fpOk (Nat.le_refl _) (I1.hok.fresh (Nat.le_refl _))
  · obtain ⟨its, rv, p, hz⟩ := I1.tuple hq
    refine wpAny_pyIter_tuple (show s1.heap.IsTuple a its.toArray from p) ?_
    refine ⟨s1.heap.objs.size, [s1.heap.objs.size], _, _, H1, rfl, I1.kept (t' := s1.toks) fun b o e => Heap.get?_push_of_some _ e, turn_tuple a _, ⟨_, Heap.get?_push_size _ rfl, rfl, rfl⟩, fun b hb => ?_, q⟩
    have e : b = s1.heap.objs.size := by simpa using hb
    subst e
    exact I1.fpOk (Nat.le_refl _) (I1.hok.fresh (Nat.le_refl _))
section
variable {k : Kx} {P : Pg} {n : Nat} {c : Ck} {W : XK} {X : Cx} {Y : Cf} {w : Bool} {tg : Expr}
theorem Later.fh {F H F' H' : Hp} {s s' : St} (h : Later k w F H s F' H' s') : Same F F' ∧ Same F' H' ∧ HandOk k F' H' s' := by
  unfold Later at h
  cases w with
  | true => rw [if_pos rfl] at h; exact ⟨h.ff, h.fh, h.hand⟩
  | false => rw [if_neg Bool.false_ne_true] at h; exact h
theorem Later.trans {F H F1 H1 F2 H2 : Hp} {s s1 s2 : St} (h : Later k w F H s F1 H1 s1) (E : Ext k F1 H1 s1 F2 H2 s2) : Later k w F H s F2 H2 s2 := by
  unfold Later at h ⊢
  cases w with
  | true => rw [if_pos rfl] at h ⊢; exact h.trans E
  | false => rw [if_neg Bool.false_ne_true] at h ⊢; exact ⟨h.1.trans E.ff, E.fh, E.hand⟩
theorem Later.self {F H : Hp} {s : St} (fh : Same F H) (hd : HandOk k F H s) : Later k w F H s F H s := by
  unfold Later
  cases w with
  | true => rw [if_pos rfl]; exact Ext.refl fh hd
  | false => rw [if_neg Bool.false_ne_true]; exact ⟨Same.refl _, fh, hd⟩
/-- a list that stands as it did -/
theorem walk_l {F H : Hp} {s : St} {a : Addr} {xs : List V} {ds : List D} (h : F a = some (.lst xs) ∨ (w = true ∧ H a = some (.lst xs) ∧ ¬ Mx k s a)) (r : Reps k F xs ds) : WalkD k (Later k w F H s) ds (Itl k.K a) := by
  have st : ∀ F' H' s', Later k w F H s F' H' s' → SqL k.K H' a xs := fun F' H' s' g => by
    rcases h with h | ⟨hw, h, m⟩
    · exact SqL.of (g.fh.2.1 _ _ (g.fh.1 _ _ h))
    · subst hw
      unfold Later at g
      rw [if_pos rfl] at g
      exact SqL.of (g.hh a _ h m)
  have len := r.length
  refine ⟨fun i F' H' s' hi g => ?_, fun F' H' s' g => ⟨xs, st F' H' s' g, by omega⟩, fun i d F' H' s' x H2 hd g y => ?_⟩
  · have hi' : i < xs.length := by omega
    exact ⟨xs, xs[i], st F' H' s' g, by simp [hi']⟩
  · obtain ⟨e0, y⟩ := y
    obtain ⟨v, e1, r1⟩ := r.get hd
    have e2 := y xs (st F' H' s' g)
    rw [e1] at e2
    cases e2
    rw [e0]
    exact ⟨F', Ext.refl g.fh.2.1 g.fh.2.2, Rep.mono g.fh.1 r1⟩
theorem walk_t {F H : Hp} {s : St} {a : Addr} {xs : List V} {ds : List D} (h : SqT k.K F a xs) (r : Reps k F xs ds) : WalkD k (Later k w F H s) ds (Itt k.K a) := by
  have st : ∀ F' H' s', Later k w F H s F' H' s' → SqT k.K H' a xs := fun F' H' s' g => sameT g.fh.2.1 (sameT g.fh.1 h)
  have len := r.length
  refine ⟨fun i F' H' s' hi g => ?_, fun F' H' s' g => ⟨xs, st F' H' s' g, by omega⟩, fun i d F' H' s' x H2 hd g y => ?_⟩
  · have hi' : i < xs.length := by omega
    exact ⟨xs, xs[i], st F' H' s' g, by simp [hi']⟩
  · obtain ⟨e0, y⟩ := y
    obtain ⟨v, e1, r1⟩ := r.get hd
    have e2 := y xs (st F' H' s' g)
    rw [e1] at e2
    cases e2
    rw [e0]
    exact ⟨F', Ext.refl g.fh.2.1 g.fh.2.2, Rep.mono g.fh.1 r1⟩
theorem rngD_get {a b : Int} {i : Nat} {d : D} (h : (rngD a b)[i]? = some d) : i < (b - a).toNat ∧ d = .int (a + (i : Nat)) := by
  unfold rngD at h
  rw [List.getElem?_map] at h
  obtain ⟨j, e1, rfl⟩ := Option.map_eq_some_iff.mp h
  have hi : i < (b - a).toNat := by
    cases q : decide (i < (b - a).toNat) with
    | true => exact of_decide_eq_true q
    | false =>
      rw [List.getElem?_eq_none (by simpa using of_decide_eq_false q)] at e1
      cases e1
  rw [List.getElem?_range hi] at e1
  cases e1
  exact ⟨hi, rfl⟩
theorem rngD_len (a b : Int) : (rngD a b).length = (b - a).toNat := by unfold rngD; simp
theorem walk_r {F H : Hp} {s : St} {a b : Int} : WalkD k (Later k w F H s) (rngD a b) (Itr a (b - a).toNat) := by
  refine ⟨fun i F' H' s' hi g => by rw [rngD_len] at hi; exact hi, fun F' H' s' g => by rw [rngD_len]; exact Nat.le_refl _, fun i d F' H' s' x H2 hd g y => ?_⟩
  obtain ⟨rfl, rfl⟩ := y
  obtain ⟨_, rfl⟩ := rngD_get hd
  exact ⟨F', Ext.refl g.fh.2.1 g.fh.2.2, .int _⟩
/-- the source's value, borrowed or not -/
def tW (k : Kx) (W : XK) (Y : Cf) (w : Bool) (t : C) : TE := fun σ H Q => ∃ B F ρ s, EnvOk k B F H σ ρ s ∧ Post k W F H s (borIf w t ρ s (evE Y t ρ s)) fun d s' F' H' => ∀ v, RepB k F' H' s' v d → ((∀ ds, d = .lst ds → w = false → Rep k F' v d) → Q v H')
theorem tW_of {t : C} {e : Expr} (p : PE X e (tE k W Y t)) (pb : PE X e (tB k W Y t)) : PE X e (tW k W Y w t) := by
  cases w with
  | true =>
    refine PEw pb fun σ H Q ⟨B, F, ρ, s, ok, q⟩ => ⟨B, F, ρ, s, ok, ?_⟩
    exact (show Post k W F H s (bor t ρ s (evE Y t ρ s)) _ from q).mono fun d s' F' H' _ q v r => q v r fun _ _ z => by cases z
  | false =>
    refine PEw p fun σ H Q ⟨B, F, ρ, s, ok, q⟩ => ⟨B, F, ρ, s, ok, ?_⟩
    exact (show Post k W F H s (evE Y t ρ s) _ from q).mono fun d s' F' H' _ q v r => q v (.inl r) fun _ _ _ => r
theorem walk_of {F H : Hp} {s : St} {v : V} {d : D} {ds : List D} (fh : Same F H) (r : RepB k F H s v d) (f : ∀ es, d = .lst es → w = false → Rep k F v d) (hi : items d = some ds) :
    ∃ a, v = .ref a ∧ (((∃ xs, SqL k.K H a xs) ∧ WalkD k (Later k w F H s) ds (Itl k.K a)) ∨ ((∃ xs, SqT k.K H a xs) ∧ WalkD k (Later k w F H s) ds (Itt k.K a))) := by
  cases d <;> first | (cases hi; done) | skip
  case tup es =>
    cases hi
    obtain ⟨a, xs, rfl, h1, r1⟩ := repB_tup r
    exact ⟨a, rfl, .inr ⟨⟨xs, sameT fh h1⟩, walk_t h1 r1⟩⟩
  case lst es =>
    cases hi
    rcases r with r | ⟨p, u, e1, e3, ⟨xs, rfl, e4⟩, e5, e6⟩
    · cases r with
      | lst h r1 => exact ⟨_, rfl, .inl ⟨⟨_, SqL.of (fh _ _ h)⟩, walk_l (.inl h) r1⟩⟩
    · cases hw : w with
      | true => exact ⟨p, e1, .inl ⟨⟨_, SqL.of e3⟩, walk_l (.inr ⟨rfl, e3, e6⟩) e4⟩⟩
      | false =>
        have r := f _ rfl hw
        cases r with
        | lst h r1 => exact ⟨_, rfl, .inl ⟨⟨_, SqL.of (fh _ _ h)⟩, walk_l (.inl h) r1⟩⟩
theorem q_iseq (g : Good k P n c W X) {a : C} {ea : Expr} (pa : PE X ea (tE k W Y a)) (pb : PE X ea (tB k W Y a)) : PI X tg ea (tI k W Y w (.seq a)) := by
  refine PIw (pi_any (tW_of (w := w) pa pb)) fun σ H R ⟨B, F, ρ, s, ok, q⟩ => ⟨B, F, ρ, s, ok, ?_⟩
  refine (Post.bnd (show Post k W F H s (bnd (borIf w a ρ s (evE Y a ρ s)) _) _ from q)).mono fun x s1 F1 H1 E1 q v r f => ?_
  obtain ⟨ds, e, q⟩ := Post.lift q
  have q := q F1 H1 (Ext.refl E1.fh E1.hand)
  rw [g.hK]
  obtain ⟨p, rfl, ⟨h1, h2⟩ | ⟨h1, h2⟩⟩ := walk_of (w := w) E1.fh r f e
  · exact ⟨p, rfl, .inl ⟨h1, q _ h2⟩⟩
  · exact ⟨p, rfl, .inr ⟨h1, q _ h2⟩⟩
theorem rngG_b {a b : Int} (h : rngG a b = true) : (-1000000000 ≤ a ∧ a ≤ 1000000000) ∧ -1000000000 ≤ b ∧ b ≤ 1000000000 := by
  unfold rngG at h
  simp only [Bool.and_eq_true, decide_eq_true_eq] at h
  exact ⟨⟨h.1.1.1.1, h.1.1.1.2⟩, h.1.1.2, h.1.2⟩
theorem q_irng1 (g : Good k P n c W X) {a : C} {ea : Expr} {p pos : Pos} (hg : glB c "range" = true) (pa : PE X ea (tE k W Y a)) (hp : plainB ea = true) : PI X tg (.Call (.Name "range" p) [ea] [] pos) (tI k W Y w (.rng1 a)) := by
  refine PIw (pi_range1 (g.glob hg) (g.noblt (by decide)) (pa_cons pa pa_nil (star1 hp [] _)) (star1 hp [] _)) fun σ H R ⟨B, F, ρ, s, ok, q⟩ => ⟨B, F, ρ, s, ok, ?_⟩
  refine (Post.bnd (show Post k W F H s (bnd (evE Y a ρ s) _) _ from q)).mono fun x s1 F1 H1 E1 q1 v r => ?_
  cases x with
  | int i =>
    rw [rep_int r]
    cases hr : rngG 0 i with
    | false => simp only [hr, Bool.false_eq_true, if_false] at q1; exact q1.elim
    | true =>
      simp only [hr, if_true] at q1
      have b := rngG_b hr
      have z : (i - 0).toNat = i.toNat := by rw [Int.sub_zero]
      refine ⟨i, rfl, by omega, by omega, ?_⟩
      have y := Post.ok q1 (Ext.refl E1.fh E1.hand) _ (walk_r (a := 0) (b := i))
      rw [z] at y
      exact y
  | _ => exact q1.elim
theorem q_irng2 (g : Good k P n c W X) {a b : C} {ea eb : Expr} {p pos : Pos} (hg : glB c "range" = true) (pa : PE X ea (tE k W Y a)) (pb : PE X eb (tE k W Y b)) (hp : plainB ea = true) (hp2 : plainB eb = true) : PI X tg (.Call (.Name "range" p) [ea, eb] [] pos) (tI k W Y w (.rng2 a b)) := by
  refine PIw (pi_range2 (g.glob hg) (g.noblt (by decide)) (pa_cons pa (pa_cons pb pa_nil (star1 hp2 [] _)) (star1 hp _ _)) (by rw [star1 hp, star1 hp2]; rfl) (star1 hp2 [] _)) fun σ H R ⟨B, F, ρ, s, ok, q⟩ => ⟨B, F, ρ, s, ok, ?_⟩
  refine (Post.bnd (show Post k W F H s (bnd (evE Y a ρ s) _) _ from q)).mono fun x s1 F1 H1 E1 q1 v r => ⟨B, F1, ρ, s1, ok.next E1, ?_⟩
  refine (Post.bnd q1).mono fun y s2 F2 H2 E2 q2 v2 r2 => ?_
  cases x with
  | int i =>
    cases y with
    | int j =>
      rw [rep_int r, rep_int r2]
      cases hr : rngG i j with
      | false => simp only [hr, Bool.false_eq_true, if_false] at q2; exact q2.elim
      | true =>
        simp only [hr, if_true] at q2
        have b := rngG_b hr
        exact ⟨i, j, rfl, by omega, Post.ok q2 (Ext.refl E2.fh E2.hand) _ (walk_r (a := i) (b := j))⟩
    | _ => exact q2.elim
  | _ => cases y <;> exact q2.elim
/-! enumerate, zip: each pair a new tuple -/
theorem pair_new {F H : Hp} {s : St} {T : Addr} {x y : V} {d e : D} (fh : Same F H) (hd : HandOk k F H s) (n : H T = none) (r : Rep k F x d) (r2 : Rep k F y e) : ∃ F', Ext k F H s F' (upd H T (.tup [x, y])) s ∧ Rep k F' (.ref T) (.tup [d, e]) :=
  ⟨_, Ext.newS fh hd n, .tup (SqT.of upd_same) (Reps.mono (fun b u q => by rw [upd_ne (ne_of_none q (Ext.fn fh n))]; exact q) (.cons r (.cons r2 .nil)))⟩
theorem sql_of {F H : Hp} {s : St} {a : Addr} {xs : List V} (h : F a = some (.lst xs) ∨ (w = true ∧ H a = some (.lst xs) ∧ ¬ Mx k s a)) : ∀ F' H' s', Later k w F H s F' H' s' → SqL k.K H' a xs := fun F' H' s' g => by
  rcases h with h | ⟨hw, h, m⟩
  · exact SqL.of (g.fh.2.1 _ _ (g.fh.1 _ _ h))
  · subst hw
    unfold Later at g
    rw [if_pos rfl] at g
    exact SqL.of (g.hh a _ h m)
theorem walk_e {F H : Hp} {s : St} {a : Addr} {xs : List V} {ds : List D} (h : F a = some (.lst xs) ∨ (w = true ∧ H a = some (.lst xs) ∧ ¬ Mx k s a)) (r : Reps k F xs ds) : WalkD k (Later k w F H s) (ds.mapIdx fun i d => .tup [.int (i : Nat), d]) (Ite k.K a) := by
  have st := sql_of h
  have len := r.length
  refine ⟨fun i F' H' s' hi g => ?_, fun F' H' s' g => ⟨xs, st F' H' s' g, by simp; omega⟩, fun i d F' H' s' x H2 hd g y => ?_⟩
  · have hi' : i < xs.length := by simp at hi; omega
    exact ⟨xs, xs[i], st F' H' s' g, by simp [hi']⟩
  · obtain ⟨T, z, e1, e2, e3, e4⟩ := y
    rw [List.getElem?_mapIdx] at hd
    obtain ⟨d', e5, rfl⟩ := Option.map_eq_some_iff.mp hd
    obtain ⟨v, e6, r1⟩ := r.get e5
    have e7 := e4 xs (st F' H' s' g)
    rw [e6] at e7
    cases e7
    rw [e1, e3]
    exact pair_new g.fh.2.1 g.fh.2.2 e2 (.int _) (Rep.mono g.fh.1 r1)
theorem walk_z {F H : Hp} {s : St} {a b : Addr} {xs ys : List V} {ds es : List D} (h : F a = some (.lst xs) ∨ (w = true ∧ H a = some (.lst xs) ∧ ¬ Mx k s a)) (r : Reps k F xs ds) (h2 : F b = some (.lst ys) ∨ (w = true ∧ H b = some (.lst ys) ∧ ¬ Mx k s b)) (r2 : Reps k F ys es) :
    WalkD k (Later k w F H s) ((ds.zip es).map fun p => .tup [p.1, p.2]) (Itz k.K a b) := by
  have st := sql_of h
  have st2 := sql_of h2
  have len := r.length
  have len2 := r2.length
  refine ⟨fun i F' H' s' hi g => ?_, fun F' H' s' g => ⟨xs, ys, st F' H' s' g, st2 F' H' s' g, by simp; omega⟩, fun i d F' H' s' x H2 hd g y => ?_⟩
  · have hi' : i < xs.length ∧ i < ys.length := by simp at hi; omega
    exact ⟨xs, ys, xs[i], ys[i], st F' H' s' g, st2 F' H' s' g, by simp [hi'.1], by simp [hi'.2]⟩
  · obtain ⟨T, z, z2, e1, e2, e3, e4, e5⟩ := y
    rw [List.getElem?_map] at hd
    obtain ⟨p, e6, rfl⟩ := Option.map_eq_some_iff.mp hd
    obtain ⟨p1, p2⟩ := p
    obtain ⟨f1, f2⟩ := List.getElem?_zip_eq_some.mp e6
    obtain ⟨v, g1, r1⟩ := r.get f1
    obtain ⟨u, g2, r3⟩ := r2.get f2
    have g3 := e4 xs (st F' H' s' g)
    have g4 := e5 ys (st2 F' H' s' g)
    rw [g1] at g3
    rw [g2] at g4
    cases g3
    cases g4
    rw [e1, e3]
    exact pair_new g.fh.2.1 g.fh.2.2 e2 (Rep.mono g.fh.1 r1) (Rep.mono g.fh.1 r3)
theorem walk_zt {F H : Hp} {s : St} {a b : Addr} {xs ys : List V} {ds es : List D} (h : SqT k.K F a xs) (r : Reps k F xs ds) (h2 : SqT k.K F b ys) (r2 : Reps k F ys es) :
    WalkD k (Later k w F H s) ((ds.zip es).map fun p => .tup [p.1, p.2]) (RZ.ItzT k.K a b) := by
  have st : ∀ F' H' s', Later k w F H s F' H' s' → SqT k.K H' a xs := fun F' H' s' g => sameT g.fh.2.1 (sameT g.fh.1 h)
  have st2 : ∀ F' H' s', Later k w F H s F' H' s' → SqT k.K H' b ys := fun F' H' s' g => sameT g.fh.2.1 (sameT g.fh.1 h2)
  have len := r.length
  have len2 := r2.length
  refine ⟨fun i F' H' s' hi g => ?_, fun F' H' s' g => ⟨xs, ys, st F' H' s' g, st2 F' H' s' g, by simp; omega⟩, fun i d F' H' s' x H2 hd g y => ?_⟩
  · have hi' : i < xs.length ∧ i < ys.length := by simp at hi; omega
    exact ⟨xs, ys, xs[i], ys[i], st F' H' s' g, st2 F' H' s' g, by simp [hi'.1], by simp [hi'.2]⟩
  · obtain ⟨T, z, z2, e1, e2, e3, e4, e5⟩ := y
    rw [List.getElem?_map] at hd
    obtain ⟨p, e6, rfl⟩ := Option.map_eq_some_iff.mp hd
    obtain ⟨p1, p2⟩ := p
    obtain ⟨f1, f2⟩ := List.getElem?_zip_eq_some.mp e6
    obtain ⟨v, g1, r1⟩ := r.get f1
    obtain ⟨u, g2, r3⟩ := r2.get f2
    have g3 := e4 xs (st F' H' s' g)
    have g4 := e5 ys (st2 F' H' s' g)
    rw [g1] at g3
    rw [g2] at g4
    cases g3
    cases g4
    rw [e1, e3]
    exact pair_new g.fh.2.1 g.fh.2.2 e2 (Rep.mono g.fh.1 r1) (Rep.mono g.fh.1 r3)
end
/-! ### slots stored, wiped -/
theorem at_set {ρ : Env} {i j : Nat} {x : Sl} : Env.at (ρ.set i x) j = if i = j ∧ i < ρ.length then x else ρ.at j := by
  unfold Env.at
  rw [List.getD_eq_getElem?_getD, List.getD_eq_getElem?_getD]
  by_cases h : i = j
  · subst h
    by_cases h2 : i < ρ.length
    · rw [List.getElem?_set_self h2, if_pos ⟨rfl, h2⟩]; rfl
    · rw [if_neg (fun q => h2 q.2), List.getElem?_eq_none (by simpa using h2), List.getElem?_eq_none (by omega)]
  · rw [List.getElem?_set_ne h, if_neg (fun q => h q.1)]
theorem set_get {σ : L2.St} {i j : Nat} {x : Option V} : (σ.set i x)[j]? = if i = j ∧ i < σ.length then some x else σ[j]? := by
  by_cases h : i = j
  · subst h
    by_cases h2 : i < σ.length
    · rw [List.getElem?_set_self h2, if_pos ⟨rfl, h2⟩]
    · rw [if_neg (fun q => h2 q.2), List.getElem?_eq_none (by simpa using h2), List.getElem?_eq_none (by omega)]
  · rw [List.getElem?_set_ne h, if_neg (fun q => h q.1)]
section
variable {k : Kx} {B : Bs} {F H : Hp} {σ : L2.St} {ρ : Env} {s : St}
/-- a slot takes something that is no list of its own -/
theorem EnvOk.put (ok : EnvOk k B F H σ ρ s) (i : Nat) {x : Sl} {o : Option V} (ho : isOwn x = false) (h : ∀ P, SlOk k F H P (some o) x) : EnvOk k B F H (σ.set i o) (ρ.set i x) s := by
  obtain ⟨A, h1, h2, h3⟩ := ok.sl
  have own : ∀ j, isOwn (Env.at (ρ.set i x) j) = true → isOwn (ρ.at j) = true := fun j q => by
    rw [at_set] at q
    split at q
    · rw [ho] at q; cases q
    · exact q
  refine ⟨ok.ext, ok.gf, by rw [List.length_set, List.length_set]; exact ok.len, A, fun j => ?_, fun j l n q1 q2 => h2 j l n (own j q1) (own l q2), fun j q => h3 j (own j q)⟩
  rw [at_set, set_get, ok.len]
  split
  · exact h _
  · exact h1 j
theorem EnvOk.putv (ok : EnvOk k B F H σ ρ s) (i : Nat) {v : V} {d : D} (r : Rep k F v d) : EnvOk k B F H (σ.set i (some v)) (ρ.set i (.v d)) s := ok.put i rfl fun _ => r
theorem EnvOk.wipe (ok : EnvOk k B F H σ ρ s) : ∀ vs : List Nat, EnvOk k B F H (L2.wipe σ vs) (wipeE ρ vs) s
  | [] => ok
  | v :: vs => (EnvOk.wipe ok vs).put v rfl fun _ => trivial
end
theorem wipe_set {σ : L2.St} {i : Nat} {x : Option V} : ∀ {vs : List Nat}, i ∈ vs → L2.wipe (σ.set i x) vs = L2.wipe σ vs
  | [], h => by cases h
  | v :: vs, h => by
    show (L2.wipe (σ.set i x) vs).set v none = (L2.wipe σ vs).set v none
    by_cases q : i ∈ vs
    · rw [wipe_set q]
    · have e : i = v := by
        rcases List.mem_cons.mp h with e | e
        · exact e
        · exact absurd e q
      subst e
      rw [wipe_set_out q, List.set_set]
where
  wipe_set_out : ∀ {vs : List Nat}, i ∉ vs → L2.wipe (σ.set i x) vs = (L2.wipe σ vs).set i x
  | [], _ => rfl
  | v :: vs, h => by
    show (L2.wipe (σ.set i x) vs).set v none = ((L2.wipe σ vs).set v none).set i x
    rw [wipe_set_out fun q => h (List.mem_cons_of_mem _ q), List.set_comm _ _ fun q => h (by rw [q]; exact List.mem_cons_self)]
/-! ### targets -/
mutual
def gD (K : PySem.W.Frag) : G → TG
  | .one i => gName i
  | .tup gs => gTup K gs.length (gDs K gs)
def gDs (K : PySem.W.Frag) : List G → TGs
  | [] => gNil
  | g :: gs => gCons (gD K g) (gDs K gs)
end
mutual
def gvars : G → List Nat
  | .one i => [i]
  | .tup gs => gvarss gs
def gvarss : List G → List Nat
  | [] => []
  | g :: gs => gvars g ++ gvarss gs
end
mutual
theorem bind_ok {k : Kx} {B : Bs} {F H : Hp} {s : St} : ∀ (g : G) (d : D) (v : V) (σ : L2.St) (ρ ρ' : Env) (Q : L2.St → Hp → Prop), EnvOk k B F H σ ρ s → Rep k F v d → bindG g d ρ = some ρ' → (∀ σ', EnvOk k B F H σ' ρ' s → (∀ vs : List Nat, (∀ i ∈ gvars g, i ∈ vs) → L2.wipe σ' vs = L2.wipe σ vs) → Q σ' H) → gD k.K g v σ H Q
  | .one i, d, v, σ, ρ, ρ', Q, ok, r, e, h => by
    cases e
    exact h _ (ok.putv i r) fun vs hv => wipe_set (hv i (by simp [gvars]))
  | .tup gs, d, v, σ, ρ, ρ', Q, ok, r, e, h => by
    cases d <;> first | (cases e; done) | skip
    rename_i ds
    obtain ⟨a, xs, rfl, h1, r1⟩ := rep_tup r
    have len : xs.length = gs.length := by rw [r1.length]; exact binds_len gs ds ρ ρ' e
    exact ⟨a, xs, rfl, sameT ok.ext.fh h1, len, binds_ok gs ds xs σ ρ ρ' Q ok r1 e h⟩
theorem binds_ok {k : Kx} {B : Bs} {F H : Hp} {s : St} : ∀ (gs : List G) (ds : List D) (vs : List V) (σ : L2.St) (ρ ρ' : Env) (Q : L2.St → Hp → Prop), EnvOk k B F H σ ρ s → Reps k F vs ds → bindGs gs ds ρ = some ρ' → (∀ σ', EnvOk k B F H σ' ρ' s → (∀ vs : List Nat, (∀ i ∈ gvarss gs, i ∈ vs) → L2.wipe σ' vs = L2.wipe σ vs) → Q σ' H) → gDs k.K gs vs σ H Q
  | [], [], _, σ, ρ, ρ', Q, ok, .nil, e, h => by
    cases e
    exact ⟨rfl, h σ ok fun _ _ => rfl⟩
  | g :: gs, d :: ds, _, σ, ρ, ρ', Q, ok, .cons (v := v) (vs := vs) r t, e, h => by
    simp only [bindGs] at e
    cases q : bindG g d ρ with
    | none => rw [q] at e; cases e
    | some ρ1 =>
      rw [q] at e
      refine ⟨v, vs, rfl, bind_ok g d v σ ρ ρ1 _ ok r q fun σ1 ok1 w1 => ?_⟩
      refine binds_ok gs ds vs σ1 ρ1 ρ' Q ok1 t e fun σ2 ok2 w2 => h σ2 ok2 fun l hl => ?_
      rw [w2 l fun i hi => hl i (by simp [gvarss, hi]), w1 l fun i hi => hl i (by simp [gvarss, hi])]
  | [], _ :: _, _, _, _, _, _, _, _, e, _ => by cases e
  | _ :: _, [], _, _, _, _, _, _, _, e, _ => by cases e
theorem binds_len : ∀ (gs : List G) (ds : List D) (ρ ρ' : Env), bindGs gs ds ρ = some ρ' → ds.length = gs.length
  | [], [], _, _, _ => rfl
  | g :: gs, d :: ds, ρ, ρ', e => by
    simp only [bindGs] at e
    cases q : bindG g d ρ with
    | none => rw [q] at e; cases e
    | some ρ1 =>
      rw [q] at e
      simp [binds_len gs ds ρ1 ρ' e]
  | [], _ :: _, _, _, e => by cases e
  | _ :: _, [], _, _, e => by cases e
end
end Ev
set_option maxHeartbeats 4000000
/-! EvComp: comprehensions. -/
namespace Ev
open PySem PySem.Spec PyProof.Rows L2
abbrev Bot : XK := fun _ _ _ => False
theorem bnd_okE {α β : Type} {x : Out α} {f : α → St → Out β} {b : β} {s' : St} (h : bnd x f = some (.ok b, s')) : ∃ a s1, x = some (.ok a, s1) ∧ f a s1 = some (.ok b, s') := by
  match x, h with
  | some (.ok a, s1), h => exact ⟨a, s1, rfl, h⟩
theorem ok_E {α : Type} {a b : α} {s s' : St} (h : ok a s = some (.ok b, s')) : a = b ∧ s = s' := by
  cases h
  exact ⟨rfl, rfl⟩
theorem mapGo_cons {f : D → St → Out (Option D)} {d : D} {ds : List D} {s s' : St} {rest : List D} (h : mapGo f (d :: ds) s = some (.ok rest, s')) :
    ∃ y s1 r, f d s = some (.ok y, s1) ∧ mapGo f ds s1 = some (.ok r, s') ∧ rest = consO y r := by
  obtain ⟨y, s1, h1, h2⟩ := bnd_okE (show bnd (f d s) _ = _ from h)
  obtain ⟨r, s2, h3, h4⟩ := bnd_okE h2
  obtain ⟨h5, h6⟩ := ok_E h4
  subst h6
  exact ⟨y, s1, r, h1, h3, h5.symm⟩
section
variable {k : Kx} {F H F1 H1 : Hp} {s s1 : St}
/-- a new list of ours grows -/
theorem Ext.grow {D : Addr} {o o' : HO} (E : Ext k F H s F1 H1 s1) (n : nt H D = none) (f : F1 D = none) (h0 : H1 D = some o') (pl : Plain o') (hd : HandOk k F H s) : Ext k F H s F1 (upd H1 D o) s1 where
  ff := E.ff
  fh := fun b u e => by rw [upd_ne (ne_of_none e f)]; exact E.fh b u e
  hx := fun b u e z m => by rw [upd_ne (nt_ne e z n)]; exact E.hx b u e z m
  nn := fun b e => by
    by_cases q : b = D
    · subst q; exact absurd n e
    · rw [nt_upd q]; exact E.nn b e
  nf := E.nf
  st := E.st
  hand := by
    obtain ⟨⟨g4, g5⟩, h0'⟩ := E.hand
    refine ⟨⟨fun q hq => ⟨(g4 q hq).1, TabS_upd (g4 q hq).2 h0 pl⟩, g5⟩, fun x hx => ?_⟩
    obtain ⟨g1, hc, g2, g3⟩ := h0' x hx
    have ne : k.ha ≠ D := by
      have e1 : s.isSome = true := by rw [← E.st, hx]; rfl
      obtain ⟨y, hy⟩ := Option.isSome_iff_exists.mp e1
      obtain ⟨_, hc', h2, _⟩ := hd.2 y hy
      exact nt_ne h2 (fun ps w => by cases w) n
    exact ⟨g1, hc, by rw [upd_ne ne]; exact g2, g3⟩
end
theorem wipe_wipe {σ : L2.St} (vs : List Nat) : ∀ ws : List Nat, (∀ i ∈ ws, i ∈ vs) → L2.wipe (L2.wipe σ ws) vs = L2.wipe σ vs
  | [], _ => rfl
  | w :: ws, h => by
    show L2.wipe ((L2.wipe σ ws).set w none) vs = _
    rw [wipe_set (h w List.mem_cons_self), wipe_wipe vs ws fun i hi => h i (List.mem_cons_of_mem _ hi)]
section
variable {k : Kx} {P : Pg} {n : Nat} {c : Ck} {W : XK} {X : Cx} {Y : Cf}
/-- one turn of a comprehension's block -/
def turnF (Y : Cf) (own : List Nat) (g : G) (t : Option T) (e : C) (ρ : Env) : D → St → Out (Option D) := fun d s => match bindG g d (wipeE ρ own) with
  | some ρ' => bnd (evTo Y t ρ' s) fun c s => if c = true then bnd (evE Y e ρ' s) fun y s => ok (some y) s else ok none s
  | none => none
theorem mute_ok {α : Type} {x : Out α} {Q : α → St → Hp → Hp → Prop} {F H : Hp} {s : St} (p : Post k W F H s (mute x) Q) : ∃ a s', x = some (.ok a, s') ∧ ∀ F' H', Ext k F H s F' H' s' → Q a s' F' H' := by
  match x, p with
  | some (.ok a, s'), p => exact ⟨a, s', rfl, p⟩
/-- the state of a comprehension ahead of turn i -/
structure CompW (k : Kx) (Y : Cf) (own : List Nat) (tg : G) (t : Option T) (e : C) (ρ : Env) (F1 H1 : Hp) (s1 : St) (D : Addr) (ds ys : List Ev.D) (s' : St) (i : Nat) (F H : Hp) (s : St) : Prop where
  ext : Ext k F1 H1 s1 F H s
  fD : F D = none
  le : i ≤ ds.length
  st : ∃ acc accD rest, H D = some (.lst acc) ∧ Reps k F acc accD ∧ acc.length ≤ i ∧ mapGo (turnF Y own tg t e ρ) (ds.drop i) s = some (.ok rest, s') ∧ ys = accD ++ rest
theorem comp_read {own : List Nat} {tg : G} {it : I} {t : Option T} {e : C} (hv : ∀ i ∈ gvars tg, i ∈ own) (σ : L2.St) (H : Hp) (Q : VK) (h : tN k W Y (.comp own tg it t e) σ H Q) :
    tLc (tI k W Y true it) (gD k.K tg) (tTo k Bot Y t) (tE k Bot Y e) own σ H Q := by
  obtain ⟨B, F, ρ, s, ok0, q⟩ := h
  refine ⟨B, F, ρ, s, ok0, ?_⟩
  refine (Post.bnd (show Post k W F H s (bnd (evI Y true it ρ s) _) _ from q)).mono fun ds s1 F1 H1 E1 q1 J wd D nD => ?_
  by_cases hl : ds.length ≤ lim
  · rw [if_pos hl] at q1
    obtain ⟨ys, s', hm, q3⟩ := mute_ok (x := mapGo (turnF Y own tg t e ρ) ds s1) (Post.bnd q1)
    have ok1 := ok0.next E1
    refine ⟨fun i m H' => m = ds.length - i ∧ ∃ F' s2, CompW k Y own tg t e ρ F1 H1 s1 D ds ys s' i F' H' s2, ⟨_, rfl, F1, s1, Ext.new E1.fh E1.hand nD, E1.fnone nD, Nat.zero_le _, [], [], ys, upd_same, .nil, Nat.le_refl _, hm, rfl⟩, ?_⟩
    rintro i m H2 ⟨rfl, F2, s2, w⟩
    obtain ⟨E2, fD, hle, acc, accD, rest, hD, rA, hA, hg, hy⟩ := w
    have lt : Later k true F1 H1 s1 F2 H2 s2 := E2
    by_cases hi : i < ds.length
    · refine .inr ⟨wd.go i F2 H2 s2 hi lt, fun H' => ∃ F' s2', CompW k Y own tg t e ρ F1 H1 s1 D ds ys s' (i + 1) F' H' s2', fun H' ⟨F', s3, w⟩ => ⟨_, by omega, rfl, F', s3, w⟩, fun x H3 y => ?_⟩
      have hd : ds[i]? = some ds[i] := List.getElem?_eq_getElem hi
      obtain ⟨F3, E3, r3⟩ := wd.yld i ds[i] F2 H2 s2 x H3 hd lt y
      rw [List.drop_eq_getElem_cons hi] at hg
      obtain ⟨yo, s4, rest', g1, g2, g3⟩ := mapGo_cons hg
      have okw := ((ok1.next E2).next E3).wipe own
      unfold turnF at g1
      cases hb : bindG tg ds[i] (wipeE ρ own) with
      | none => rw [hb] at g1; cases g1
      | some ρ' =>
        rw [hb] at g1
        obtain ⟨cb, s5, g4, g5⟩ := bnd_okE (show bnd (evTo Y t ρ' s2) _ = _ from g1)
        refine bind_ok tg ds[i] x (L2.wipe σ own) (wipeE ρ own) ρ' _ okw r3 hb fun σ2 ok2 w2 => ⟨?_, ?_⟩
        · rw [w2 own hv]
          exact wipe_wipe own own fun _ h => h
        · have nD3 : H3 D = some (.lst acc) := E3.hh D _ hD fun m => by
            have := (E1.hand.at ((Mx.iff E2.st).mp m)).2
            exact this nD
          refine ⟨B, F3, ρ', s2, ok2, ?_⟩
          rw [g4]
          intro F5 H5 E5
          have E15 := (E2.trans E3).trans E5
          have nm : ∀ {z : St}, z.isSome = s1.isSome → ¬ Mx k z D := fun hz m => (E1.hand.at ((Mx.iff hz).mp m)).2 nD
          have D5 : H5 D = some (.lst acc) := E5.hh D _ nD3 (nm E2.st)
          have f5 : F5 D = none := E5.nf D (by rw [nt_some nD3 (plain_lst _).2]; simp) (E3.nf D (by rw [nt_some hD (plain_lst _).2]; simp) fD)
          have r5 := Reps.mono (E3.trans E5).ff rA
          cases cb with
          | false =>
            refine iteF ?_
            rw [if_neg Bool.false_ne_true] at g5
            obtain ⟨g6, g7⟩ := ok_E g5
            subst g6 g7 g3
            exact ⟨F5, s5, E15, f5, by omega, acc, accD, _, D5, r5, by omega, g2, hy⟩
          | true =>
            refine iteT ?_
            rw [if_pos rfl] at g5
            obtain ⟨yv, s6, g6, g7⟩ := bnd_okE g5
            obtain ⟨g8, g9⟩ := ok_E g7
            subst g8 g9 g3
            refine ⟨B, F5, ρ', s5, ok2.next E5, ?_⟩
            rw [g6]
            intro F6 H6 E6 v6 r6
            have D6 : H6 D = some (.lst acc) := E6.hh D _ D5 (nm (E15.st))
            have f6 : F6 D = none := E6.nf D (by rw [nt_some D5 (plain_lst _).2]; simp) f5
            refine ⟨acc, D6, Nat.lt_of_le_of_lt (Nat.le_trans hA (Nat.le_of_lt hi)) (Nat.lt_of_le_of_lt hl (by decide)), F6, s6, (E15.trans E6).grow (nt_none nD) f6 D6 (plain_lst _) E1.hand, f6, by omega, acc ++ [v6], accD ++ [yv], rest', upd_same, (Reps.mono E6.ff r5).append (.cons r6 .nil), by simp; omega, g2, by rw [hy]; simp [consO]⟩
    · have e : i = ds.length := by omega
      subst e
      rw [List.drop_length] at hg
      obtain ⟨g1, g2⟩ := ok_E (show ok [] s2 = _ from hg)
      subst g1 g2
      rw [List.append_nil] at hy
      subst hy
      refine .inl ⟨wd.stop F2 H2 s2 lt, ?_⟩
      have z := Post.ok (q3 F2 H2 E2) (Ext.refl E2.fh E2.hand)
      exact z _ (RepF.lst (E1.hnone (nt_none nD)) fD hD rA)
  · rw [if_neg hl] at q1
    exact q1.elim
end
end Ev
set_option maxHeartbeats 4000000
/-! EvStmt: statements. -/
namespace Ev
open PySem PySem.Spec PyProof.Rows L2
/-- X(), X an own exception class without own __init__ -/
theorem pmk_own0 {X : Cx} {C : Addr} {bmB : List Value} {B newId initId : String} {x : Str} {p pos : Pos} (F : ExcBaseFacts B newId initId bmB) (q : PySem.W.excIn X.K C bmB newId = true) (gC : X.mg x = some (.ref C))
    (kC : PySem.W.keepIn X.K (.ref C) = true) (r : L2.Raises X (.ref C)) (hg : Gl X x) (hdb : (x == ("__debug__" : Str)) = false := by decide) :
    L2.PMk X (.Call (.Name x p) [] [] pos) (fun σ H Q => Q (.ref C) none H) := by
  intro pins s σ H Q I h
  refine wpAny_Call_Name_kw (ld_glob I hg gC ?_ hdb)
  refine PySem.W.callWith_K0 I.kIn kC ?_
  show wpAny _ _ (PySem.call (.ref C) []) _ _ _
  obtain ⟨bm, N, nm, qn, bs, hdct, sn, sub, ab, col, dd, k0, k1, k2, k3, k5, mN, hC, hN, hni, T⟩ := exc_obj I.kIn q
  refine wpAny_call_exc_subT F T hC hN hni (fun h' e hm => ?_) (by simp)
  exact mk_of I hm r h (I.hok.gone hm.new)
section
variable {k : Kx} {W : XK} {B : Bs}
/-- what follows a statement -/
def PostS (k : Kx) (W : XK) (B : Bs) (D : Ends) (o : Out Fl) : Prop := match o with
  | some (.ok (.nx ρ), s') => ∀ F' H' σ', EnvOk k B F' H' σ' ρ s' → D.nx σ' H'
  | some (.ok (.brk ρ), s') => ∀ F' H' σ', EnvOk k B F' H' σ' ρ s' → D.bk σ' H'
  | some (.ok (.cnt ρ), s') => ∀ F' H' σ', EnvOk k B F' H' σ' ρ s' → D.ct σ' H'
  | some (.ok (.ret ρ d), s') => ∀ F' H' σ' v, EnvOk k B F' H' σ' ρ s' → Rep k F' v d → D.rt v H'
  | some (.ex e, s') => ∀ F' H' cls dd, Ext k B.F B.H B.s F' H' s' → ExcOk k F' H' e cls dd → W cls dd H'
  | none => False
theorem PostS.bnd {α : Type} {D : Ends} {x : Out α} {f : α → St → Out Fl} {F H : Hp} {σ : L2.St} {ρ : Env} {s : St} (ok : EnvOk k B F H σ ρ s) (p : PostS k W B D (Ev.bnd x f)) : Post k W F H s x fun a s1 _ _ => PostS k W B D (f a s1) := by
  match x, p with
  | some (.ok a, s1), p => exact fun F1 H1 E => p
  | some (.ex e, s1), p => exact fun F' H' cls dd E q => p F' H' cls dd (ok.ext.trans E) q
theorem PostS.lift {α : Type} {D : Ends} {x : Option α} {s : St} {f : α → St → Out Fl} (p : PostS k W B D (Ev.bnd (Ev.lift x s) f)) : ∃ a, x = some a ∧ PostS k W B D (f a s) := by
  cases x with
  | none => exact p.elim
  | some a => exact ⟨a, rfl, p⟩
/-- what follows the end of a block -/
def endS (k : Kx) (W : XK) (B : Bs) (D : Ends) (f : Env → St → Out Fl) : Ends := { D with nx := fun σ H => ∃ F ρ s, EnvOk k B F H σ ρ s ∧ PostS k W B D (f ρ s) }
end
section
variable (k : Kx) (W : XK) (Y : Cf)
def tS (t : S) : TS := fun D σ H => ∃ B F ρ s, EnvOk k B F H σ ρ s ∧ PostS k W B D (evS Y t ρ s)
def tSs (t : List S) : TS := fun D σ H => ∃ B F ρ s, EnvOk k B F H σ ρ s ∧ PostS k W B D (evSs Y t ρ s)
end
section
variable {k : Kx} {P : Pg} {n : Nat} {c : Ck} {W : XK} {X : Cx} {Y : Cf}
theorem r_nil : PSs X [] (tSs k W Y []) := by
  refine PSsw pss_nil fun D σ H ⟨B, F, ρ, s, ok, q⟩ => ?_
  have q : PostS k W B D (Ev.ok (Fl.nx ρ) s) := by simpa [evSs] using q
  exact q F H σ ok
theorem seq_post {B : Bs} {D : Ends} {x : Out Fl} {f : Env → St → Out Fl} (p : PostS k W B D (bnd x fun r s => match r with
    | .nx ρ' => f ρ' s
    | r => Ev.ok r s)) : PostS k W B { D with nx := fun σ H => ∃ F ρ s, EnvOk k B F H σ ρ s ∧ PostS k W B D (f ρ s) } x := by
  match x, p with
  | some (.ok (.nx ρ), s), p => exact fun F' H' σ' ok => ⟨F', ρ, s, ok, p⟩
  | some (.ok (.brk ρ), s), p => exact p
  | some (.ok (.cnt ρ), s), p => exact p
  | some (.ok (.ret ρ d), s), p => exact p
  | some (.ex e, s), p => exact p
theorem r_cons {t : S} {r : List S} {st : Stmt} {rest : List Stmt} (h1 : PS X st (tS k W Y t)) (h2 : PSs X rest (tSs k W Y r)) : PSs X (st :: rest) (tSs k W Y (t :: r)) := by
  refine PSsw (pss_cons h1 h2) fun D σ H ⟨B, F, ρ, s, ok, q⟩ => ⟨B, F, ρ, s, ok, ?_⟩
  have q : PostS k W B D (bnd (evS Y t ρ s) fun f s => match f with
    | .nx ρ' => evSs Y r ρ' s
    | f => Ev.ok f s) := q
  have z := seq_post (f := fun ρ s => evSs Y r ρ s) q
  revert z
  generalize evS Y t ρ s = x
  intro z
  match x, z with
  | some (.ok (.nx ρ), s), p => exact fun F' H' σ' ok => ⟨B, p F' H' σ' ok⟩
  | some (.ok (.brk ρ), s), p => exact p
  | some (.ok (.cnt ρ), s), p => exact p
  | some (.ok (.ret ρ d), s), p => exact p
  | some (.ex e, s), p => exact p
theorem EnvOk.put1 {B : Bs} {F H : Hp} {σ : L2.St} {ρ : Env} {s : St} (ok : EnvOk k B F H σ ρ s) (i : Nat) {v : V} {d : D} (r : Rep k F v d) : EnvOk k B F H (σ.set i (some v)) (ρ.set i (.v d)) s := ok.putv i r
theorem r_pass {pos : Pos} : PS X (.Pass pos) (tS k W Y .pass) := by
  refine PSw ps_pass fun D σ H ⟨B, F, ρ, s, ok, q⟩ => ?_
  have q : PostS k W B D (Ev.ok (Fl.nx ρ) s) := by simpa only [evS] using q
  exact q F H σ ok
theorem r_brk {pos : Pos} : PS X (.Break pos) (tS k W Y .brk) := by
  refine PSw ps_break fun D σ H ⟨B, F, ρ, s, ok, q⟩ => ?_
  have q : PostS k W B D (Ev.ok (Fl.brk ρ) s) := by simpa only [evS] using q
  exact q F H σ ok
theorem r_cnt {pos : Pos} : PS X (.Continue pos) (tS k W Y .cnt) := by
  refine PSw ps_continue fun D σ H ⟨B, F, ρ, s, ok, q⟩ => ?_
  have q : PostS k W B D (Ev.ok (Fl.cnt ρ) s) := by simpa only [evS] using q
  exact q F H σ ok
theorem r_ret {t : C} {e : Expr} {pos : Pos} (p : PE X e (tE k W Y t)) : PS X (.Return (some e) pos) (tS k W Y (.ret t)) := by
  refine PSw (ps_ret p) fun D σ H ⟨B, F, ρ, s, ok, q⟩ => ⟨B, F, ρ, s, ok, ?_⟩
  have q : PostS k W B D (bnd (evE Y t ρ s) fun d s => Ev.ok (Fl.ret ρ d) s) := by simpa only [evS] using q
  exact (PostS.bnd ok q).mono fun d s1 F1 H1 E1 q v r => q F1 H1 σ v (ok.next E1) r
theorem r_retn {pos : Pos} : PS X (.Return none pos) (tS k W Y .retn) := by
  refine PSw ps_retN fun D σ H ⟨B, F, ρ, s, ok, q⟩ => ?_
  have q : PostS k W B D (Ev.ok (Fl.ret ρ Ev.D.non) s) := by simpa only [evS] using q
  exact q F H σ _ ok Rep.non
theorem r_exp {t : C} {e : Expr} {pos : Pos} (p : PE X e (tE k W Y t)) (hs : swapsWith e none pos.line X.env = pure false) : PS X (.Expr e pos) (tS k W Y (.exp t)) := by
  refine PSw (ps_expr p hs) fun D σ H ⟨B, F, ρ, s, ok, q⟩ => ⟨B, F, ρ, s, ok, ?_⟩
  have q : PostS k W B D (bnd (evE Y t ρ s) fun _ s => Ev.ok (Fl.nx ρ) s) := by simpa only [evS] using q
  exact (PostS.bnd ok q).mono fun d s1 F1 H1 E1 q v r => q F1 H1 σ (ok.next E1)
theorem r_asg (g : Good k P n c W X) {i : Nat} {x : Str} {t : C} {e : Expr} {pos pos' : Pos} (h1 : c.N[i]? = some x) (h2 : locB c x = true) (p : PE X e (tE k W Y t)) (hs : swapsWith e (some (.Name x pos')) pos.line X.env = pure false) :
    PS X (.Assign [.Name x pos'] e pos) (tS k W Y (.asg i t)) := by
  refine PSw (ps_set (by rw [g.hN]; exact g.nd) (by rw [g.hN]; exact h1) (g.loc h2).1 p hs (g.loc h2).2) fun D σ H ⟨B, F, ρ, s, ok, q⟩ => ⟨B, F, ρ, s, ok, ?_⟩
  have q : PostS k W B D (bnd (evE Y t ρ s) fun d s => Ev.ok (Fl.nx (ρ.set i (.v d))) s) := by simpa only [evS] using q
  exact (PostS.bnd ok q).mono fun d s1 F1 H1 E1 q v r => q F1 H1 _ ((ok.next E1).putv i r)
theorem r_if {t : T} {a b : List S} {e : Expr} {sa sb : List Stmt} {pos : Pos} (pt : PT X e (tT k W Y t)) (pa : PSs X sa (tSs k W Y a)) (pb : PSs X sb (tSs k W Y b)) : PS X (.If e sa sb pos) (tS k W Y (.iff t a b)) := by
  refine PSw (ps_if pt pa pb) fun D σ H ⟨B, F, ρ, s, ok, q⟩ => ⟨B, F, ρ, s, ok, ?_⟩
  have q : PostS k W B D (bnd (evT Y t ρ s) fun c s => if c = true then evSs Y a ρ s else evSs Y b ρ s) := by simpa only [evS] using q
  refine (PostS.bnd ok q).mono fun b s1 F1 H1 E1 q => ?_
  cases b with
  | true => exact ⟨B, F1, ρ, s1, ok.next E1, q⟩
  | false => exact ⟨B, F1, ρ, s1, ok.next E1, q⟩
theorem r_raise0 (g : Good k P n c W X) (hh : c.hot = false) {x : Str} {C : Addr} {bmB : List Value} {Bn newId initId : String} {p pos pos' : Pos} (FE : ExcBaseFacts Bn newId initId bmB) (hq : PySem.W.excIn X.K C bmB newId = true) (gC : X.mg x = some (.ref C))
    (kC : PySem.W.keepIn X.K (.ref C) = true) (r : L2.Raises X (.ref C)) (hg : glB c x = true) (ho : okN x = true) (hc : k.ecl x = some C) : PS X (.Raise (some (.Call (.Name x p) [] [] pos)) none pos') (tS k W Y (.raise x none)) := by
  refine PSw (ps_raise (g.calm hh) g.tk (pmk_own0 FE hq gC kC r (g.glob hg) (okN_d ho).1)) fun D σ H ⟨B, F, ρ, s, ok, q⟩ => ?_
  have q : PostS k W B D (some (.ex ⟨x, none⟩, s)) := by simpa only [evS] using q
  exact q F H _ _ ok.ext ⟨⟨C, hc, rfl⟩, rfl⟩
end
end Ev
set_option maxHeartbeats 4000000
/-! EvMut: slots that own a list: made, changed, sealed. -/
namespace Ev
open PySem PySem.Spec PyProof.Rows L2
section
variable {k : Kx} {B : Bs} {F H : Hp} {σ : L2.St} {ρ : Env} {s : St}
theorem at_append {ρ τ : Env} {i : Nat} : Env.at (ρ ++ τ) i = if i < ρ.length then ρ.at i else τ.at (i - ρ.length) := by
  unfold Env.at
  rw [List.getD_eq_getElem?_getD, List.getD_eq_getElem?_getD, List.getD_eq_getElem?_getD]
  by_cases h : i < ρ.length
  · rw [if_pos h, List.getElem?_append_left h]
  · rw [if_neg h, List.getElem?_append_right (by omega)]
theorem at_lt {ρ : Env} {i : Nat} (h : isOwn (ρ.at i) = true) : i < ρ.length := by
  by_cases q : i < ρ.length
  · exact q
  · unfold Env.at at h
    rw [List.getD_eq_getElem?_getD, List.getElem?_eq_none (by omega)] at h
    cases h
/-- the slots in another order -/
theorem EnvOk.re (ok : EnvOk k B F H σ ρ s) {σ' : L2.St} {ρ' : Env} (f : Nat → Nat) (hl : σ'.length = ρ'.length) (h : ∀ i, σ'[i]? = σ[f i]? ∧ ρ'.at i = ρ.at (f i)) (inj : ∀ i j, isOwn (ρ'.at i) = true → isOwn (ρ'.at j) = true → f i = f j → i = j) : EnvOk k B F H σ' ρ' s := by
  obtain ⟨A, h1, h2, h3⟩ := ok.sl
  refine ⟨ok.ext, ok.gf, hl, fun i => A (f i), fun i => ?_, fun i j n o1 o2 => ?_, fun i o => ?_⟩
  · rw [(h i).1, (h i).2]; exact h1 (f i)
  · refine h2 _ _ (fun e => n (inj i j o1 o2 e)) ?_ ?_
    · rw [← (h i).2]; exact o1
    · rw [← (h j).2]; exact o2
  · exact h3 (f i) (by rw [← (h i).2]; exact o)
/-- one slot more -/
theorem EnvOk.snoc (ok : EnvOk k B F H σ ρ s) {v : V} {x : Sl} {p : Addr} (h : SlOk k F H p (some (some v)) x) (hn : isOwn x = true → (∀ j, isOwn (ρ.at j) = true → ∀ P, SlOk k F H P σ[j]? (ρ.at j) → P ≠ p) ∧ nt B.H p = none ∧ ¬ Mx k s p) : EnvOk k B F H (σ ++ [some v]) (ρ ++ [x]) s := by
  obtain ⟨A, h1, h2, h3⟩ := ok.sl
  have at0 : ∀ i, Env.at (ρ ++ [x]) i = if i < ρ.length then ρ.at i else if i = ρ.length then x else .no := fun i => by
    rw [at_append]
    by_cases q : i < ρ.length
    · rw [if_pos q, if_pos q]
    · rw [if_neg q, if_neg q]
      by_cases z : i = ρ.length
      · rw [if_pos z, z]; simp [Env.at]
      · rw [if_neg z]
        have : i - ρ.length = (i - ρ.length - 1) + 1 := by omega
        rw [this]; simp [Env.at]
  refine ⟨ok.ext, ok.gf, by simp [ok.len], fun i => if i < ρ.length then A i else p, fun i => ?_, fun i j n o1 o2 => ?_, fun i o => ?_⟩
  · show SlOk k F H (if i < ρ.length then A i else p) _ _
    rw [at0]
    by_cases q : i < ρ.length
    · rw [if_pos q, if_pos q, List.getElem?_append_left (by rw [ok.len]; exact q)]
      exact h1 i
    · rw [if_neg q, if_neg q]
      by_cases z : i = ρ.length
      · rw [if_pos z, List.getElem?_append_right (by rw [ok.len]; omega), ok.len, z, Nat.sub_self]
        exact h
      · rw [if_neg z]; trivial
  · rw [at0] at o1 o2
    by_cases q : i < ρ.length
    · rw [if_pos q] at o1
      by_cases q2 : j < ρ.length
      · rw [if_pos q2] at o2
        simp only [if_pos q, if_pos q2]
        exact h2 i j n o1 o2
      · rw [if_neg q2] at o2
        simp only [if_pos q, if_neg q2]
        by_cases z : j = ρ.length
        · rw [if_pos z] at o2
          exact (hn o2).1 i o1 _ (h1 i)
        · rw [if_neg z] at o2; cases o2
    · rw [if_neg q] at o1
      by_cases z : i = ρ.length
      · rw [if_pos z] at o1
        by_cases q2 : j < ρ.length
        · rw [if_pos q2] at o2
          simp only [if_neg q, if_pos q2]
          exact ((hn o1).1 j o2 _ (h1 j)).symm
        · rw [if_neg q2] at o2
          by_cases z2 : j = ρ.length
          · exact absurd (z.trans z2.symm) n
          · rw [if_neg z2] at o2; cases o2
      · rw [if_neg z] at o1; cases o1
  · rw [at0] at o
    by_cases q : i < ρ.length
    · rw [if_pos q] at o
      simp only [if_pos q]
      exact h3 i o
    · rw [if_neg q] at o
      simp only [if_neg q]
      by_cases z : i = ρ.length
      · rw [if_pos z] at o; exact (hn o).2
      · rw [if_neg z] at o; cases o
/-- the first further slot goes to its place -/
theorem EnvOk.pull {v : Option V} {x : Sl} {σ2 : L2.St} {τ : Env} (hl : σ.length = ρ.length) (ok : EnvOk k B F H (σ ++ v :: σ2) (ρ ++ x :: τ) s) (i : Nat) : EnvOk k B F H (σ.set i v ++ σ2) (ρ.set i x ++ τ) s := by
  have hl2 : σ2.length = τ.length := by have := ok.len; simp at this; omega
  refine ok.re (fun j => if j < ρ.length then (if j = i then ρ.length else j) else j + 1) (by simp [hl, hl2]) (fun j => ?_) fun a b o1 o2 e => ?_
  · constructor
    · by_cases q : j < ρ.length
      · simp only [if_pos q]
        rw [List.getElem?_append_left (by rw [List.length_set, hl]; exact q), set_get]
        by_cases z : j = i
        · subst z
          rw [if_pos ⟨rfl, by rw [hl]; exact q⟩, if_pos rfl, List.getElem?_append_right (by omega), hl, Nat.sub_self]
          rfl
        · rw [if_neg (fun w => z w.1.symm), if_neg z, List.getElem?_append_left (by rw [hl]; exact q)]
      · simp only [if_neg q]
        rw [List.getElem?_append_right (by rw [List.length_set]; omega), List.getElem?_append_right (by omega), List.length_set]
        have : j + 1 - σ.length = (j - σ.length) + 1 := by omega
        rw [this]
        rfl
    · by_cases q : j < ρ.length
      · simp only [if_pos q]
        rw [at_append, List.length_set, if_pos q, at_set]
        by_cases z : j = i
        · subst z
          rw [if_pos ⟨rfl, q⟩, if_pos rfl, at_append, if_neg (by omega), Nat.sub_self]
          rfl
        · rw [if_neg (fun w => z w.1.symm), if_neg z, at_append, if_pos q]
      · simp only [if_neg q]
        rw [at_append, List.length_set, if_neg q, at_append, if_neg (by omega)]
        have : j + 1 - ρ.length = (j - ρ.length) + 1 := by omega
        rw [this]
        rfl
  · show a = b
    have e : (if a < ρ.length then (if a = i then ρ.length else a) else a + 1) = (if b < ρ.length then (if b = i then ρ.length else b) else b + 1) := e
    repeat' split at e
    all_goals omega
/-- a list of ours changes -/
theorem EnvOk.mut (ok : EnvOk k B F H σ ρ s) {i : Nat} {d : D} (hi : ρ.at i = .own d) :
    ∃ p o, σ[i]? = some (some (.ref p)) ∧ H p = some o ∧ Own k F p d o ∧ ¬ Mx k s p ∧ F p = none ∧ ∀ u e, Own k F p e u → EnvOk k B F (upd H p u) σ (ρ.set i (.own e)) s := by
  obtain ⟨A, h1, h2, h3⟩ := ok.sl
  have a := h1 i
  have b := h3 i (by rw [hi]; rfl)
  have oi : isOwn (ρ.at i) = true := by rw [hi]; rfl
  have il := at_lt oi
  rw [hi] at a
  match y : σ[i]?, a with
  | some (some v), ⟨a1, a2, xs, a3, a4⟩ =>
    refine ⟨A i, xs, by rw [← a1], a3, a4, b.2, a2, fun u e' r => ⟨?_, ok.gf, by rw [List.length_set]; exact ok.len, A, fun j => ?_, fun j l n o1 o2 => ?_, fun j o => ?_⟩⟩
    · have E := ok.ext
      refine ⟨E.ff, fun c u e => by rw [upd_ne (ne_of_none e a2)]; exact E.fh c u e, fun c u e z m => by rw [upd_ne (nt_ne e z b.1)]; exact E.hx c u e z m, fun c e => ?_, E.nf, E.st, ?_⟩
      · by_cases q : c = A i
        · subst q; exact absurd b.1 e
        · rw [nt_upd q]; exact E.nn c e
      · obtain ⟨⟨g4, g5⟩, h0⟩ := E.hand
        refine ⟨⟨fun q hq => ⟨(g4 q hq).1, TabS_upd (g4 q hq).2 a3 a4.plain⟩, g5⟩, fun x hx => ?_⟩
        obtain ⟨g1, hc, g2, g3⟩ := h0 x hx
        have ne : k.ha ≠ A i := fun q => b.2 (.inl ⟨by rw [hx]; rfl, q.symm⟩)
        exact ⟨g1, hc, by rw [upd_ne ne]; exact g2, g3⟩
    · rw [at_set]
      by_cases q : i = j
      · subst q
        rw [if_pos ⟨rfl, il⟩, y]
        exact ⟨a1, a2, u, upd_same, r⟩
      · rw [if_neg (fun z => q z.1)]
        have z := h1 j
        cases zz : ρ.at j with
        | no => trivial
        | v d =>
          rw [zz] at z
          match σ[j]?, z with
          | some (some w), z => exact z
        | own es =>
          rw [zz] at z
          have ne : A j ≠ A i := (h2 i j q oi (by rw [zz]; rfl)).symm
          match σ[j]?, z with
          | some (some w), ⟨z1, z2, zs, z3, z4⟩ => exact ⟨z1, z2, zs, by rw [upd_ne ne]; exact z3, z4⟩
    · have tr : ∀ m, isOwn (Env.at (ρ.set i (.own e')) m) = true → isOwn (ρ.at m) = true := fun m q => by
        rw [at_set] at q
        split at q
        · rename_i w; rw [← w.1]; exact oi
        · exact q
      exact h2 j l n (tr j o1) (tr l o2)
    · have tr : ∀ m, isOwn (Env.at (ρ.set i (.own e')) m) = true → isOwn (ρ.at m) = true := fun m q => by
        rw [at_set] at q
        split at q
        · rename_i w; rw [← w.1]; exact oi
        · exact q
      exact h3 j (tr j o)
/-- a list of ours is sealed -/
theorem EnvOk.frz (ok : EnvOk k B F H σ ρ s) {i : Nat} {d : D} (hi : ρ.at i = .own d) : ∃ F', EnvOk k B F' H σ (ρ.set i (.v d)) s := by
  obtain ⟨A, h1, h2, h3⟩ := ok.sl
  have a := h1 i
  have b := h3 i (by rw [hi]; rfl)
  have oi : isOwn (ρ.at i) = true := by rw [hi]; rfl
  have il := at_lt oi
  rw [hi] at a
  match y : σ[i]?, a with
  | some (some v), ⟨a1, a2, xs, a3, a4⟩ =>
    have sm : Same F (upd F (A i) xs) := fun c u e => by rw [upd_ne (ne_of_none e a2)]; exact e
    have E1 := ok.ext.lock b.1 a3 b.2 a2 a4.plain.2
    have tr : ∀ m, isOwn (Env.at (ρ.set i (.v d)) m) = true → isOwn (ρ.at m) = true ∧ m ≠ i := fun m q => by
      rw [at_set] at q
      split at q
      · cases q
      · rename_i w; exact ⟨q, fun z => w ⟨z.symm, il⟩⟩
    refine ⟨upd F (A i) xs, E1, ok.gf.trans sm, by rw [List.length_set]; exact ok.len, A, fun j => ?_, fun j l n o1 o2 => h2 j l n (tr j o1).1 (tr l o2).1, fun j o => h3 j (tr j o).1⟩
    rw [at_set]
    by_cases q : i = j
    · subst q
      rw [if_pos ⟨rfl, il⟩, y]
      show Rep k _ v _
      rw [a1]
      exact Own.rep (Own.mono sm a4) upd_same
    · rw [if_neg (fun z => q z.1)]
      have z := h1 j
      cases zz : ρ.at j with
      | no => trivial
      | v d =>
        rw [zz] at z
        match σ[j]?, z with
        | some (some w), z => exact Rep.mono sm z
      | own es =>
        rw [zz] at z
        have ne : A j ≠ A i := (h2 i j q oi (by rw [zz]; rfl)).symm
        match σ[j]?, z with
        | some (some w), ⟨z1, z2, zs, z3, z4⟩ => exact ⟨z1, by rw [upd_ne ne]; exact z2, zs, z3, Own.mono sm z4⟩
end
end Ev
set_option maxHeartbeats 4000000
/-! EvLoop: assignments to slots of one's own, changes, loops. -/
namespace Ev
open PySem PySem.Spec PyProof.Rows L2
section
variable {k : Kx} {B : Bs} {F H F' H' : Hp} {σ : L2.St} {ρ : Env} {s s' : St}
/-- further slots forgotten -/
theorem EnvOk.cut {σ2 : L2.St} {τ : Env} (hl : σ.length = ρ.length) (ok : EnvOk k B F H (σ ++ σ2) (ρ ++ τ) s) : EnvOk k B F H σ ρ s := by
  have hl2 := ok.len
  simp only [List.length_append] at hl2
  refine ok.re (fun j => if j < ρ.length then j else j + τ.length) hl (fun j => ?_) fun a b o1 o2 e => ?_
  · by_cases q : j < ρ.length
    · simp only [if_pos q]
      rw [List.getElem?_append_left (by omega), at_append, if_pos q]
      exact ⟨rfl, rfl⟩
    · simp only [if_neg q]
      rw [List.getElem?_eq_none (by omega), List.getElem?_eq_none (by rw [List.length_append]; omega), at_append, if_neg (by omega)]
      refine ⟨rfl, ?_⟩
      unfold Env.at
      rw [List.getD_eq_getElem?_getD, List.getD_eq_getElem?_getD, List.getElem?_eq_none (by omega), List.getElem?_eq_none (by omega)]
  · have h1 := at_lt o1
    have h2 := at_lt o2
    simpa only [if_pos h1, if_pos h2] using e
/-- a new thing in a further slot -/
theorem EnvOk.snocN (ok : EnvOk k B F H σ ρ s) (E : Ext k F H s F' H' s') {v : V} {d : D} (o : ownB d = true) (r : RepF k H F' H' v d) : EnvOk k B F' H' (σ ++ [some v]) (ρ ++ [.own d]) s' := by
  unfold RepF at r
  rw [if_pos o] at r
  obtain ⟨p, u, rfl, h1, h2, h3, h4⟩ := r
  refine (ok.next E).snoc (p := p) ⟨rfl, h2, u, h3, h4⟩ fun _ => ⟨fun j oj P hP e => ?_, ?_, fun m => ?_⟩
  · obtain ⟨A, a1, a2, a3⟩ := ok.sl
    have z := a1 j
    subst e
    cases zz : ρ.at j with
    | no => rw [zz] at oj; cases oj
    | v _ => rw [zz] at oj; cases oj
    | own e =>
      rw [zz] at z hP
      match y : σ[j]?, z, hP with
      | some (some w), ⟨z1, z2, u, z3, z4⟩, ⟨w1, _⟩ =>
        rw [z1] at w1
        cases w1
        exact nt_ne z3 z4.plain.2 h1 rfl
  · exact ok.ext.hnone h1
  · exact (ok.ext.hand.nmx E.hand E.st h1 h3 h4.plain.2) m
theorem EnvOk.snocV (ok : EnvOk k B F H σ ρ s) {v : V} {d : D} (r : Rep k F v d) : EnvOk k B F H (σ ++ [some v]) (ρ ++ [.v d]) s :=
  ok.snoc (p := 0) r fun h => by cases h
end
def slsOf : List Bool → List D → Option (List Sl)
  | [], [] => some []
  | w :: ws, d :: ds => match (if w = true then ownD d else some (.v d)), slsOf ws ds with
    | some x, some r => some (x :: r)
    | _, _ => none
  | _, _ => none
theorem ownD_some {d : D} {x : Sl} (h : ownD d = some x) : ownB d = true ∧ x = .own d := by
  cases d <;> first | (cases h; done) | (cases h; exact ⟨rfl, rfl⟩)
section
variable {k : Kx} {P : Pg} {n : Nat} {c : Ck} {W : XK} {X : Cx} {Y : Cf}
/-- arguments, some of them to be owned -/
def tAO (k : Kx) (W : XK) (Y : Cf) (ws : List Bool) (ts : List C) : TA := fun σ H Q => ∃ B F ρ s σ2 τ, σ.length = ρ.length ∧ EnvOk k B F H (σ ++ σ2) (ρ ++ τ) s ∧
  Post k W F H s (evEs Y ts ρ s) fun ds s' F' H' => ∃ sls, slsOf ws ds = some sls ∧ ∀ vs, (∃ F'', EnvOk k B F'' H' (σ ++ (σ2 ++ vs.map some)) (ρ ++ (τ ++ sls)) s') → Q vs H'
theorem o_nil : PA X [] (tAO k W Y [] []) := PAw pa_nil fun σ H Q ⟨B, F, ρ, s, σ2, τ, hl, ok, q⟩ => by
  obtain ⟨sls, e, q⟩ := Post.ok (show Post k W F H s (Ev.ok [] s) _ from q) (Ext.refl ok.ext.fh ok.ext.hand)
  cases e
  exact q [] ⟨F, by simpa using ok⟩
theorem o_consV {a : C} {as : List C} {ws : List Bool} {ea : Expr} {es : List Expr} (pa : PE X ea (tE k W Y a)) (ps : PA X es (tAO k W Y ws as)) (hp : plainB ea = true) : PA X (ea :: es) (tAO k W Y (false :: ws) (a :: as)) := by
  refine PAw (pa_cons pa ps (star1 hp es _)) fun σ H Q ⟨B, F, ρ, s, σ2, τ, hl, ok, q⟩ => ⟨B, F, ρ, s, ok.cut hl, ?_⟩
  refine (Post.bnd (show Post k W F H s (bnd (evE Y a ρ s) _) _ from q)).mono fun x s1 F1 H1 E1 q v r => ⟨B, F1, ρ, s1, σ2 ++ [some v], τ ++ [.v x], hl, by simpa using (ok.next E1).snocV r, ?_⟩
  refine (Post.bnd q).mono fun ds s2 F2 H2 E2 q => ?_
  obtain ⟨sls, e, q⟩ := Post.ok (show Post k W F2 H2 s2 (Ev.ok (x :: ds) s2) _ from q) (Ext.refl E2.fh E2.hand)
  simp only [slsOf, Bool.false_eq_true, if_false] at e
  cases e2 : slsOf ws ds with
  | none => rw [e2] at e; cases e
  | some r2 =>
    rw [e2] at e
    cases e
    exact ⟨r2, rfl, fun vs ⟨F3, ok2⟩ => q (v :: vs) ⟨F3, by simpa using ok2⟩⟩
theorem o_consN {a : C} {as : List C} {ws : List Bool} {ea : Expr} {es : List Expr} (pa : PE X ea (tN k W Y a)) (ps : PA X es (tAO k W Y ws as)) (hp : plainB ea = true) : PA X (ea :: es) (tAO k W Y (true :: ws) (a :: as)) := by
  refine PAw (pa_cons pa ps (star1 hp es _)) fun σ H Q ⟨B, F, ρ, s, σ2, τ, hl, ok, q⟩ => ⟨B, F, ρ, s, ok.cut hl, ?_⟩
  refine (Post.bnd (show Post k W F H s (bnd (evE Y a ρ s) _) _ from q)).mono fun x s1 F1 H1 E1 q v r => ?_
  cases hx : ownB x with
  | true =>
    have ho : ownD x = some (.own x) := by cases x <;> first | (cases hx; done) | rfl
    refine ⟨B, F1, ρ, s1, σ2 ++ [some v], τ ++ [.own x], hl, by simpa using ok.snocN E1 hx r, ?_⟩
    refine (Post.bnd q).mono fun ds s2 F2 H2 E2 q => ?_
    obtain ⟨sls, e, q⟩ := Post.ok (show Post k W F2 H2 s2 (Ev.ok (x :: ds) s2) _ from q) (Ext.refl E2.fh E2.hand)
    simp only [slsOf, if_true, ho] at e
    cases e2 : slsOf ws ds with
    | none => rw [e2] at e; cases e
    | some r2 =>
      rw [e2] at e
      cases e
      exact ⟨r2, rfl, fun vs ⟨F3, ok2⟩ => q (v :: vs) ⟨F3, by simpa using ok2⟩⟩
  | false =>
    have ho : ownD x = none := by cases x <;> first | (cases hx; done) | rfl
    refine ⟨B, F1, ρ, s1, σ2 ++ [some v], τ ++ [.v x], hl, by simpa using (ok.next E1).snocV (r.sc hx), ?_⟩
    refine (Post.bnd q).mono fun ds s2 F2 H2 E2 q => ?_
    obtain ⟨sls, e, q⟩ := Post.ok (show Post k W F2 H2 s2 (Ev.ok (x :: ds) s2) _ from q) (Ext.refl E2.fh E2.hand)
    simp [slsOf, ho] at e
/-- slots taken in order -/
def setAll : List (Nat × Bool) → List V → L2.St → L2.St
  | (i, _) :: ts, v :: vs, σ => setAll ts vs (σ.set i (some v))
  | _, _, σ => σ
theorem store_ok2 {B : Bs} {F H : Hp} {s : St} : ∀ {ts : List (Nat × Bool)} {ds : List D} {sls : List Sl} {vs : List V} {σ : L2.St} {ρ ρ' : Env}, storePar ts ds ρ = some ρ' → slsOf (ts.map (·.2)) ds = some sls → σ.length = ρ.length → vs.length = ts.length → EnvOk k B F H (σ ++ vs.map some) (ρ ++ sls) s → EnvOk k B F H (setAll ts vs σ) ρ' s
  | [], [], sls, [], σ, ρ, ρ', e, h, hl, _, ok => by
    cases e; cases h
    simpa [setAll] using ok
  | (i, w) :: ts, d :: ds, sls, v :: vs, σ, ρ, ρ', e, h, hl, hv, ok => by
    simp only [storePar] at e
    simp only [List.map_cons, slsOf] at h
    cases e1 : (if w = true then ownD d else some (.v d)) with
    | none => rw [e1] at e; cases e
    | some sl =>
      rw [e1] at e h
      cases e2 : slsOf (ts.map (·.2)) ds with
      | none => rw [e2] at h; cases h
      | some r =>
        rw [e2] at h
        cases h
        have ok2 := EnvOk.pull (σ := σ) (ρ := ρ) (v := some v) (x := sl) (σ2 := vs.map some) (τ := r) hl (by simpa using ok) i
        exact store_ok2 (σ := σ.set i (some v)) (ρ := ρ.set i sl) e e2 (by simp [hl]) (by simpa using hv) ok2
  | [], _ :: _, _, _, _, _, _, e, _, _, _, _ => by cases e
  | _ :: _, [], _, _, _, _, _, e, _, _, _, _ => by simp [storePar] at e
  | _ :: _, _ :: _, _, [], _, _, _, _, _, _, hv, _ => by cases hv
  | [], [], _, _ :: _, _, _, _, _, _, _, hv, _ => by cases hv
theorem sls_store : ∀ {ts : List (Nat × Bool)} {ds : List D} {ρ ρ' : Env}, storePar ts ds ρ = some ρ' → ∃ sls, slsOf (ts.map (·.2)) ds = some sls
  | [], [], _, _, _ => ⟨[], rfl⟩
  | (i, w) :: ts, d :: ds, ρ, ρ', e => by
    simp only [storePar] at e
    cases e1 : (if w = true then ownD d else some (.v d)) with
    | none => rw [e1] at e; cases e
    | some sl =>
      rw [e1] at e
      obtain ⟨r, hr⟩ := sls_store e
      exact ⟨sl :: r, by simp only [List.map_cons, slsOf, e1, hr]⟩
  | [], _ :: _, _, _, e => by cases e
  | _ :: _, [], _, _, e => by simp [storePar] at e
theorem sls_len : ∀ {ws : List Bool} {ds : List D} {sls : List Sl}, slsOf ws ds = some sls → sls.length = ws.length
  | [], [], _, h => by cases h; rfl
  | w :: ws, d :: ds, sls, h => by
    simp only [slsOf] at h
    cases e1 : (if w = true then ownD d else some (.v d)) with
    | none => rw [e1] at h; cases h
    | some sl =>
      cases e2 : slsOf ws ds with
      | none => rw [e1, e2] at h; cases h
      | some r => rw [e1, e2] at h; cases h; simp [sls_len e2]
  | [], _ :: _, _, h => by cases h
  | _ :: _, [], _, h => by cases h
/-- at most one new thing more -/
def Plus (H1 H2 : Hp) : Prop := H2 = H1 ∨ ∃ p o, H1 p = none ∧ H2 = upd H1 p o
/-- a, b, .. = x, y, ..: whatever the way to the stores -/
theorem r_parB {ts : List (Nat × Bool)} {cs : List C} {st : Stmt} {t : TS} (p : PS X st t)
    (h : ∀ D σ H, tAO k W Y (ts.map (·.2)) cs σ H (fun vs H1 => vs.length = ts.length ∧ ∀ H2, Plus H1 H2 → D.nx (setAll ts vs σ) H2) → t D σ H) : PS X st (tS k W Y (.par ts cs)) := by
  refine PSw p fun D σ H ⟨B, F, ρ, s, ok, q⟩ => h D σ H ⟨B, F, ρ, s, [], [], ok.len, by simpa using ok, ?_⟩
  have q : PostS k W B D (bnd (evEs Y cs ρ s) fun ds s => bnd (Ev.lift (storePar ts ds ρ) s) fun ρ' s => Ev.ok (Fl.nx ρ') s) := by simpa only [evS] using q
  refine (PostS.bnd ok q).mono fun ds s1 F1 H1 E1 q => ?_
  obtain ⟨ρ', e, q⟩ := PostS.lift q
  obtain ⟨sls, hs⟩ := sls_store e
  refine ⟨sls, hs, fun vs ⟨F2, ok2⟩ => ?_⟩
  have hl : vs.length = ts.length := by
    have h1 := ok2.len
    have h2 := ok.len
    have h3 := sls_len hs
    simp at h1 h3
    omega
  have ok3 := store_ok2 e hs ok.len hl (by simpa using ok2)
  refine ⟨hl, fun H2 hp => ?_⟩
  rcases hp with rfl | ⟨p, o, n, rfl⟩
  · exact q F2 _ _ ok3
  · exact q F2 _ _ (ok3.next (Ext.new ok3.ext.fh ok3.ext.hand n))
theorem tAO_mono {ws : List Bool} {ts : List C} {σ : L2.St} {H : Hp} {Q Q' : List V → Hp → Prop} (h : tAO k W Y ws ts σ H Q) (m : ∀ vs H1, Q vs H1 → Q' vs H1) : tAO k W Y ws ts σ H Q' := by
  obtain ⟨B, F, ρ, s, σ2, τ, hl, ok, q⟩ := h
  exact ⟨B, F, ρ, s, σ2, τ, hl, ok, q.mono fun ds s1 F1 H1 E1 ⟨sls, e, q⟩ => ⟨sls, e, fun vs w => m _ _ (q vs w)⟩⟩
theorem r_par2 (g : Good k P n c W X) (hh : c.hot = false) {i j : Nat} {wi wj : Bool} {a b : C} {x y : Str} {ea eb : Expr} {px py pt pt2 pos : Pos} {kt k2 : Nat} (hi : c.N[i]? = some x) (hj : c.N[j]? = some y) (hij : i ≠ j)
    (hx : X.env.scope.names.lookup x = some .local) (hy : X.env.scope.names.lookup y = some .local) (ha : PA X [ea, eb] (tAO k W Y [wi, wj] [a, b]))
    (hw : swappedStores [.Tuple [.Name x px, .Name y py] kt pt] (.Tuple [ea, eb] k2 pt2) X.env = pure (some [x, y])) : PS X (.Assign [.Tuple [.Name x px, .Name y py] kt pt] (.Tuple [ea, eb] k2 pt2) pos) (tS k W Y (.par [(i, wi), (j, wj)] [a, b])) := by
  refine r_parB (ps_par (g.calm hh) (by rw [g.hN]; exact g.nd) (by rw [g.hN]; exact hi) (by rw [g.hN]; exact hj) hij hx hy ha hw) fun D σ H q => ?_
  refine tAO_mono q fun vs H1 ⟨hl, q⟩ => ?_
  match vs, hl with
  | [v, w], _ => exact ⟨v, w, rfl, q H1 (.inl rfl)⟩
theorem r_par3 (g : Good k P n c W X) (hh : c.hot = false) {i j l : Nat} {wi wj wl : Bool} {a b d : C} {x y z : Str} {ea eb ed : Expr} {px py pz pt pt2 pos : Pos} {kt k2 : Nat} (hi : c.N[i]? = some x) (hj : c.N[j]? = some y) (hl : c.N[l]? = some z) (hij : i ≠ j) (hil : i ≠ l) (hjl : j ≠ l)
    (hx : X.env.scope.names.lookup x = some .local) (hy : X.env.scope.names.lookup y = some .local) (hz : X.env.scope.names.lookup z = some .local) (ha : PA X [ea, eb, ed] (tAO k W Y [wi, wj, wl] [a, b, d]))
    (hw : swappedStores [.Tuple [.Name x px, .Name y py, .Name z pz] kt pt] (.Tuple [ea, eb, ed] k2 pt2) X.env = pure (some [x, y, z])) : PS X (.Assign [.Tuple [.Name x px, .Name y py, .Name z pz] kt pt] (.Tuple [ea, eb, ed] k2 pt2) pos) (tS k W Y (.par [(i, wi), (j, wj), (l, wl)] [a, b, d])) := by
  refine r_parB (ps_par3 (g.calm hh) (by rw [g.hN]; exact g.nd) (by rw [g.hN]; exact hi) (by rw [g.hN]; exact hj) (by rw [g.hN]; exact hl) hij hil hjl hx hy hz ha hw) fun D σ H q => ?_
  refine tAO_mono q fun vs H1 ⟨hl, q⟩ => ?_
  match vs, hl with
  | [v, w, u], _ => exact ⟨v, w, u, rfl, q H1 (.inl rfl)⟩
def gNames : List (Nat × Bool) → TGs
  | [] => gNil
  | (i, _) :: ts => gCons (gName i) (gNames ts)
theorem gNames_ok : ∀ {ts : List (Nat × Bool)} {vs : List V} {σ : L2.St} {H : Hp} {Q : L2.St → Hp → Prop}, vs.length = ts.length → Q (setAll ts vs σ) H → gNames ts vs σ H Q
  | [], [], _, _, _, _, q => ⟨rfl, q⟩
  | (i, _) :: ts, v :: vs, σ, H, Q, hl, q => ⟨v, vs, rfl, gNames_ok (ts := ts) (by simpa using hl) q⟩
  | [], _ :: _, _, _, _, hl, _ => by cases hl
  | _ :: _, [], _, _, _, hl, _ => by cases hl
theorem r_parG (g : Good k P n c W X) (hh : c.hot = false) {ts : List (Nat × Bool)} {cs : List C} {tgs es : List Expr} {pt pt2 pos : Pos} {kt k2 : Nat} (ha : PA X es (tAO k W Y (ts.map (·.2)) cs)) (hg : PGs X tgs (gNames ts)) (hz : ts.length ≤ lim)
    (hn : (assignEach tgs X.env).length = ts.length) (hst : (assignEach tgs X.env).findIdx? (·.1) = none) (hw : swappedStores [.Tuple tgs kt pt] (.Tuple es k2 pt2) X.env = pure none) : PS X (.Assign [.Tuple tgs kt pt] (.Tuple es k2 pt2) pos) (tS k W Y (.par ts cs)) := by
  refine r_parB (ps_asg (pe_tup ha) (pg_tup (g.calm hh) hg hn hst) (by rfl) hw (by rfl)) fun D σ H q => ?_
  refine tAO_mono q fun vs H1 ⟨hl, q⟩ => ⟨by rw [hl]; exact lim_line hz, fun p np => ⟨p, vs, rfl, SqT.of upd_same, hl, gNames_ok hl (q _ (.inr ⟨p, _, np, rfl⟩))⟩⟩
end
end Ev
set_option maxHeartbeats 4000000
/-! EvLoop2: slots of one's own changed; loops. -/
namespace Ev
open PySem PySem.Spec PyProof.Rows L2
section
variable {k : Kx} {P : Pg} {n : Nat} {c : Ck} {W : XK} {X : Cx} {Y : Cf}
theorem tE_N {t : C} (σ : L2.St) (H : Hp) (Q : VK) (h : tE k W Y t σ H Q) : tN k W Y t σ H Q := by
  obtain ⟨B, F, ρ, s, ok, q⟩ := h
  refine ⟨B, F, ρ, s, ok, ?_⟩
  revert q
  generalize evE Y t ρ s = o
  intro q
  match o, q with
  | some (.ok d, s'), q =>
    intro F' H' E v r
    obtain ⟨F'', E2, r2⟩ := RepF.sealed ok.ext.hand E r
    exact q F'' H' E2 v r2
  | some (.ex e, s'), q => exact q
/-- name = e, the value sealed, owned -/
theorem r_asgV {i : Nat} {t : C} {st : Stmt} {te : TE} (p : PS X st (tAsg te (gName i))) (h : ∀ σ H Q, tE k W Y t σ H Q → te σ H Q) : PS X st (tS k W Y (.asg i t)) := by
  refine PSw p fun D σ H ⟨B, F, ρ, s, ok, q⟩ => h _ _ _ ⟨B, F, ρ, s, ok, ?_⟩
  have q : PostS k W B D (bnd (evE Y t ρ s) fun d s => Ev.ok (Fl.nx (ρ.set i (.v d))) s) := by simpa only [evS] using q
  exact (PostS.bnd ok q).mono fun d s1 F1 H1 E1 q v r => q F1 H1 _ ((ok.next E1).putv i r)
theorem r_asgN {i : Nat} {t : C} {st : Stmt} {te : TE} (p : PS X st (tAsg te (gName i))) (h : ∀ σ H Q, tN k W Y t σ H Q → te σ H Q) : PS X st (tS k W Y (.asg i t)) := r_asgV p fun σ H Q q => h σ H Q (tE_N σ H Q q)
theorem r_own {i : Nat} {t : C} {st : Stmt} {te : TE} (p : PS X st (tAsg te (gName i))) (h : ∀ σ H Q, tN k W Y t σ H Q → te σ H Q) : PS X st (tS k W Y (.own i t)) := by
  refine PSw p fun D σ H ⟨B, F, ρ, s, ok, q⟩ => h _ _ _ ⟨B, F, ρ, s, ok, ?_⟩
  have q : PostS k W B D (bnd (evE Y t ρ s) fun d s => bnd (Ev.lift (ownD d) s) fun sl s => Ev.ok (Fl.nx (ρ.set i sl)) s) := by simpa only [evS] using q
  refine (PostS.bnd ok q).mono fun d s1 F1 H1 E1 q v r => ?_
  obtain ⟨sl, e, q⟩ := PostS.lift q
  obtain ⟨o, rfl⟩ := ownD_some e
  have ok2 := EnvOk.pull (σ := σ) (ρ := ρ) (v := some v) (x := .own d) (σ2 := []) (τ := []) ok.len (ok.snocN E1 o r) i
  exact q F1 H1 _ (by simpa using ok2)
theorem r_unp {g : G} {t : C} {st : Stmt} (hK : X.K = k.K) (p : PS X st (tAsg (tE k W Y t) (gD X.K g))) : PS X st (tS k W Y (.unp g t)) := by
  refine PSw p fun D σ H ⟨B, F, ρ, s, ok, q⟩ => ⟨B, F, ρ, s, ok, ?_⟩
  have q : PostS k W B D (bnd (evE Y t ρ s) fun d s => bnd (Ev.lift (bindG g d ρ) s) fun ρ' s => Ev.ok (Fl.nx ρ') s) := by simpa only [evS] using q
  refine (PostS.bnd ok q).mono fun d s1 F1 H1 E1 q v r => ?_
  obtain ⟨ρ', e, q⟩ := PostS.lift q
  rw [hK]
  exact bind_ok g d v σ ρ ρ' _ (ok.next E1) r e fun σ' ok' _ => q F1 H1 σ' ok'
/-! ### a list of one's own -/
theorem own_at {B : Bs} {F H : Hp} {σ : L2.St} {ρ : Env} {s : St} (ok : EnvOk k B F H σ ρ s) {i : Nat} {d : D} (h : ρ.at i = .own d) : ∃ p o, σ[i]? = some (some (.ref p)) ∧ H p = some o ∧ Own k F p d o := by
  obtain ⟨p, o, h1, h2, h3, _⟩ := ok.mut h
  exact ⟨p, o, h1, h2, h3⟩
theorem r_app (g : Good k P n c W X) {i : Nat} {x : Str} {t : C} {e : Expr} {px apos cpos pos : Pos} (h1 : c.N[i]? = some x) (h2 : visB c x = true) (h3 : okN x = true) (pe : PE X e (tE k W Y t)) (hp : plainB e = true) (hline : (apos.endLine == cpos.line) = true) :
    PS X (.Expr (.Call (.Attribute (.Name x px) "append" apos) [e] [] cpos) pos) (tS k W Y (.app i t)) := by
  have pv : PE X (.Name x px) (tVar i) := pe_var (by rw [g.hN]; exact h1) (g.vis h2) (okN_d h3).1 (okN_d h3).2.1
  refine PSw (ps_expr (pe_bm PySem.F.plainAttrs_list PySem.F.slot_list_append PySem.F.type_list_append mt_append pv (pa_cons pe pa_nil (star1 hp [] _)) rfl (by rw [star1 hp]; rfl) hline (star1 hp [] _) rfl) rfl) fun D σ H ⟨B, F, ρ, s, ok, q⟩ => ?_
  simp only [evS] at q
  cases hi : ρ.at i with
  | no => rw [hi] at q; exact q.elim
  | v d => rw [hi] at q; exact q.elim
  | own d =>
    cases d <;> first | (rw [hi] at q; exact q.elim) | skip
    rename_i ds
    rw [hi] at q
    have q : PostS k W B D (bnd (evE Y t ρ s) fun d s => if ds.length < lim then Ev.ok (Fl.nx (ρ.set i (.own (.lst (ds ++ [d]))))) s else none) := q
    obtain ⟨p, o, e1, e2, xs, rfl, e3⟩ := own_at ok hi
    refine ⟨_, e1, .inl ⟨rfl, xs, SqL.of e2⟩, B, F, ρ, s, ok, ?_⟩
    refine (PostS.bnd ok q).mono fun d s1 F1 H1 E1 q v r => ?_
    obtain ⟨p', o', f1, f2, ⟨ys, rfl, f3⟩, f4, f5, f6⟩ := (ok.next E1).mut hi
    rw [e1] at f1
    cases f1
    by_cases hl : ds.length < lim
    · rw [if_pos hl] at q
      refine ⟨p, ys, v, rfl, rfl, f2, ?_, q F1 _ _ (f6 _ _ ⟨_, rfl, f3.append (.cons r .nil)⟩)⟩
      rw [f3.length]
      exact Nat.lt_of_lt_of_le hl (by decide)
    · rw [if_neg hl] at q
      exact q.elim
theorem r_ext (g : Good k P n c W X) {i : Nat} {x : Str} {t : C} {e : Expr} {px apos cpos pos : Pos} (h1 : c.N[i]? = some x) (h2 : visB c x = true) (h3 : okN x = true) (pe : PE X e (tB k W Y t)) (hp : plainB e = true) (hline : (apos.endLine == cpos.line) = true) :
    PS X (.Expr (.Call (.Attribute (.Name x px) "extend" apos) [e] [] cpos) pos) (tS k W Y (.ext i t)) := by
  have pv : PE X (.Name x px) (tVar i) := pe_var (by rw [g.hN]; exact h1) (g.vis h2) (okN_d h3).1 (okN_d h3).2.1
  refine PSw (ps_expr (pe_bm PySem.F.plainAttrs_list PySem.F.slot_list_extend PySem.F.type_list_extend mt_extend pv (pa_cons pe pa_nil (star1 hp [] _)) rfl (by rw [star1 hp]; rfl) hline (star1 hp [] _) rfl) rfl) fun D σ H ⟨B, F, ρ, s, ok, q⟩ => ?_
  simp only [evS] at q
  cases hi : ρ.at i with
  | no => rw [hi] at q; exact q.elim
  | v d => rw [hi] at q; exact q.elim
  | own d =>
    cases d <;> first | (rw [hi] at q; exact q.elim) | skip
    rename_i ds
    rw [hi] at q
    have q : PostS k W B D (bnd (bor t ρ s (evE Y t ρ s)) fun d s => match d with
      | .lst xs => if ds.length + xs.length ≤ lim then Ev.ok (Fl.nx (ρ.set i (.own (.lst (ds ++ xs))))) s else none
      | _ => none) := q
    obtain ⟨p, o, e1, e2, xs, rfl, e3⟩ := own_at ok hi
    refine ⟨_, e1, .inl ⟨rfl, xs, SqL.of e2⟩, B, F, ρ, s, ok, ?_⟩
    refine (PostS.bnd ok q).mono fun d s1 F1 H1 E1 q v r => ?_
    obtain ⟨p', o', f1, f2, ⟨ys, rfl, f3⟩, f4, f5, f6⟩ := (ok.next E1).mut hi
    rw [e1] at f1
    cases f1
    cases d <;> first | exact q.elim | skip
    rename_i es
    obtain ⟨p2, zs, rfl, g1, g2⟩ := r.lst E1.fh
    have q : PostS k W B D (if ds.length + es.length ≤ lim then Ev.ok (Fl.nx (ρ.set i (.own (.lst (ds ++ es))))) s1 else none) := q
    by_cases hl : ds.length + es.length ≤ lim
    · rw [if_pos hl] at q
      refine ⟨p, p2, ys, zs, rfl, rfl, f2, g1, ?_, q F1 _ _ (f6 _ _ ⟨_, rfl, f3.append g2⟩)⟩
      rw [f3.length, g2.length]
      exact lim_line hl
    · rw [if_neg hl] at q
      exact q.elim
/-- a store by values, into a list or a dict -/
theorem set_or {t t' : TSet} (h : PSet X t) (h' : PSet X t') : PSet X (fun o i v H Q => t o i v H Q ∨ t' o i v H Q) := fun pins s σ H o i v ov iv u Q I ro ri rv q => by
  rcases q with q | q
  · exact h pins s σ H o i v ov iv u Q I ro ri rv q
  · exact h' pins s σ H o i v ov iv u Q I ro ri rv q
theorem r_setI (g : Good k P n c W X) {i : Nat} {x : Str} {t u : C} {e ei : Expr} {px spos pos : Pos} (h1 : c.N[i]? = some x) (h2 : visB c x = true) (h3 : okN x = true) (pe : PE X e (tE k W Y t)) (pi : PE X ei (tE k W Y u)) (hp : plainB ei = true) (hs : swapsWith e (some (.Subscript (.Name x px) ei spos)) pos.line X.env = pure false) :
    PS X (.Assign [.Subscript (.Name x px) ei spos] e pos) (tS k W Y (.setI i u t)) := by
  have pv : PE X (.Name x px) (tVar i) := pe_var (by rw [g.hN]; exact h1) (g.vis h2) (okN_d h3).1 (okN_d h3).2.1
  refine PSw (ps_asg pe (pg_sub pv pi (set_or set_list (set_N g.hK g.hw (g.u65))) (by cases ei <;> first | (intro _; rfl) | cases hp)) hs (by cases e <;> rfl) (by rfl)) fun D σ H ⟨B, F, ρ, s, ok, q⟩ => ⟨B, F, ρ, s, ok, ?_⟩
  simp only [evS] at q
  refine (PostS.bnd ok q).mono fun d s1 F1 H1 E1 q v r => ?_
  have ok1 := ok.next E1
  cases hi : ρ.at i with
  | no => rw [hi] at q; exact q.elim
  | v d => rw [hi] at q; exact q.elim
  | own d0 =>
    obtain ⟨p, o, e1, e2, e3⟩ := own_at ok1 hi
    cases d0 <;> first | (rw [hi] at q; exact q.elim) | skip
    case lst ds =>
      rw [hi] at q
      have q : PostS k W B D (bnd (evE Y u ρ s1) fun j s => match j with
        | .int j => (match ixD ds.length j with
          | some n => Ev.ok (.nx (ρ.set i (.own (.lst (ds.set n d))))) s
          | none => none)
        | _ => none) := q
      refine ⟨_, e1, B, F1, ρ, s1, ok1, ?_⟩
      refine (PostS.bnd ok1 q).mono fun dj s2 F2 H2 E2 q w rw' => ?_
      obtain ⟨p', o', f1, f2, ⟨ys, rfl, f3⟩, f4, f5, f6⟩ := (ok1.next E2).mut hi
      rw [e1] at f1
      cases f1
      cases dj <;> first | exact q.elim | skip
      rename_i j
      rw [rep_int rw']
      cases hx : ixD ds.length j with
      | none => simp only [hx] at q; exact q.elim
      | some m =>
        simp only [hx] at q
        exact .inl ⟨p, ys, j, m, rfl, rfl, f2, by rw [ix_eq f3.length]; exact hx, q F2 _ _ (f6 _ _ ⟨_, rfl, f3.set (Rep.mono E2.ff r) m⟩)⟩
    case dct kvs =>
      rw [hi] at q
      have q : PostS k W B D (bnd (evE Y u ρ s1) fun j s => if (nkT j).isSome = true ∧ kvs.length < lim then Ev.ok (.nx (ρ.set i (.own (.dct (dPut kvs j d))))) s else none) := q
      refine ⟨_, e1, B, F1, ρ, s1, ok1, ?_⟩
      refine (PostS.bnd ok1 q).mono fun dj s2 F2 H2 E2 q w rw' => ?_
      obtain ⟨p', o', f1, f2, ⟨kas, rfl, f3⟩, f4, f5, f6⟩ := (ok1.next E2).mut hi
      rw [e1] at f1
      cases f1
      by_cases hg : (nkT dj).isSome = true ∧ kvs.length < lim
      · rw [if_pos hg] at q
        obtain ⟨x, hx⟩ := Option.isSome_iff_exists.mp hg.1
        have hl : kas.length = kvs.length := f3.len
        cases rw' <;> first | (cases hx; done) | skip
        rename_i b xs es h1 h2
        exact .inr ⟨F2, p, kas, kvs, _, d, x, b, E2.fh, rfl, f2, f3, rfl, .tup h1 h2, hx, by rw [hl]; exact Nat.lt_of_lt_of_le hg.2 (by decide), Rep.mono E2.ff r, q F2 _ _ (f6 _ _ ⟨_, rfl, putN_rep hx (.tup h1 h2) (Rep.mono E2.ff r) f3⟩)⟩
      · rw [if_neg hg] at q
        exact q.elim
theorem r_aug (g : Good k P n c W X) {i : Nat} {x : Str} {o : Bop} {op : Operator} {t : C} {e : Expr} {px pos : Pos} (h1 : c.N[i]? = some x) (h2 : locB c x = true) (ho : (o = .add ∧ op = .Add) ∨ (o = .sub ∧ op = .Sub)) (pe : PE X e (tE k W Y t)) : PS X (.AugAssign (.Name x px) op e pos) (tS k W Y (.aug i o t)) := by
  have pop : PIp X op (fun x y H Q => ∃ a b z, x = V.int a ∧ y = V.int b ∧ augD o (.int a) (.int b) = some (.int z) ∧ Q (.int z) H) := by
    rcases ho with ⟨rfl, rfl⟩ | ⟨rfl, rfl⟩
    · intro pins s σ H x y v u Q I r1 r2 ⟨a, b, z, e1, e2, e3, q⟩
      cases e3
      exact ip_add pins s σ H x y v u Q I r1 r2 ⟨a, b, e1, e2, q⟩
    · intro pins s σ H x y v u Q I r1 r2 ⟨a, b, z, e1, e2, e3, q⟩
      cases e3
      exact ip_sub pins s σ H x y v u Q I r1 r2 ⟨a, b, e1, e2, q⟩
  refine PSw (ps_aug (by rw [g.hN]; exact g.nd) (by rw [g.hN]; exact h1) (g.loc h2).1 pe pop (g.loc h2).2) fun D σ H ⟨B, F, ρ, s, ok, q⟩ => ?_
  simp only [evS] at q
  cases hv : (ρ.at i).val with
  | none => rw [hv] at q; exact q.elim
  | some d =>
    rw [hv] at q
    have q : PostS k W B D (bnd (evE Y t ρ s) fun y s => bnd (Ev.lift (augD o d y) s) fun z s => Ev.ok (.nx (ρ.set i (.v z))) s) := q
    obtain ⟨v, e1, r⟩ := ok.val hv
    refine ⟨v, e1, B, F, ρ, s, ok, ?_⟩
    refine (PostS.bnd ok q).mono fun dy s1 F1 H1 E1 q w r2 => ?_
    obtain ⟨z, e2, q⟩ := PostS.lift q
    have hi : ∃ a b, d = .int a ∧ dy = .int b := by
      rcases ho with ⟨rfl, _⟩ | ⟨rfl, _⟩ <;> cases d <;> cases dy <;> first | (cases e2; done) | exact ⟨_, _, rfl, rfl⟩
    obtain ⟨a, b, rfl, rfl⟩ := hi
    have hz : ∃ m, z = .int m := by rcases ho with ⟨rfl, _⟩ | ⟨rfl, _⟩ <;> (cases e2; exact ⟨_, rfl⟩)
    obtain ⟨m, rfl⟩ := hz
    rw [rep_int r, rep_int r2]
    exact ⟨a, b, m, rfl, rfl, e2, q F1 H1 _ ((ok.next E1).putv i (.int m))⟩
theorem r_never {st : Stmt} : PS X st (tS k W Y .never) := PSw ps_never fun D σ H ⟨B, F, ρ, s, ok, q⟩ => q
theorem r_frz {i : Nat} {r : List S} {sts : List Stmt} (p : PSs X sts (tSs k W Y r)) : PSs X sts (tSs k W Y (.frz i :: r)) := by
  refine PSsw p fun D σ H ⟨B, F, ρ, s, ok, q⟩ => ?_
  simp only [evSs, evS] at q
  cases hi : ρ.at i with
  | no => rw [hi] at q; exact q.elim
  | v d => rw [hi] at q; exact q.elim
  | own d =>
    rw [hi] at q
    obtain ⟨F', ok'⟩ := ok.frz hi
    exact ⟨B, F', _, s, ok', q⟩
end
end Ev
set_option maxHeartbeats 4000000
/-! EvWhile: while, for. -/
namespace Ev
open PySem PySem.Spec PyProof.Rows L2
section
variable {k : Kx} {P : Pg} {n : Nat} {c : Ck} {W : XK} {X : Cx} {Y : Cf}
theorem r_loop (g : Good k P n c W X) {t : T} {b : List S} {e : Expr} {sb : List Stmt} {pos : Pos} (pt : PT X e (tT k W Y t)) (pb : PSs X sb (tSs k W Y b)) : PS X (.While e sb [] pos) (tS k W Y (.loop t b)) := by
  refine PSw (ps_while g.po pt pb) fun D σ H ⟨B, F, ρ, s, ok, q⟩ => ?_
  have q : PostS k W B D (wh (whStep (evT Y t) (evSs Y b)) (ρ, s)) := by simpa only [evS] using q
  cases hr : wh (whStep (evT Y t) (evSs Y b)) (ρ, s) with
  | none => rw [hr] at q; exact q.elim
  | some r =>
    rw [hr] at q
    obtain ⟨m, hm⟩ := wh_iff.mp hr
    refine ⟨fun m σ H => ∃ F ρ s, EnvOk k B F H σ ρ s ∧ whIter (whStep (evT Y t) (evSs Y b)) m (ρ, s) = some r, ⟨m, F, ρ, s, ok, hm⟩, ?_⟩
    rintro m σ1 H1 ⟨F1, ρ1, s1, ok1, h1⟩
    cases m with
    | zero => cases h1
    | succ m =>
      unfold whIter at h1
      refine ⟨B, F1, ρ1, s1, ok1, ?_⟩
      cases ht : evT Y t ρ1 s1 with
      | none => simp [whStep, ht] at h1
      | some o =>
        obtain ⟨o, s2⟩ := o
        cases o with
        | ex x =>
          simp [whStep, ht] at h1
          subst h1
          exact fun F' H' cls dd E z => q F' H' cls dd (ok1.ext.trans E) z
        | ok bb =>
          intro F2 H2 E2
          have ok2 := ok1.next E2
          cases bb with
          | false =>
            simp [whStep, ht] at h1
            subst h1
            exact q F2 H2 σ1 ok2
          | true =>
            refine ⟨fun σ' H' => ∃ F ρ s, EnvOk k B F H' σ' ρ s ∧ whIter (whStep (evT Y t) (evSs Y b)) m (ρ, s) = some r, fun σ' H' z => ⟨m, Nat.lt_succ_self m, z⟩, B, F2, ρ1, s2, ok2, ?_⟩
            cases hb : evSs Y b ρ1 s2 with
            | none => simp [whStep, ht, hb] at h1
            | some o =>
              obtain ⟨o, s3⟩ := o
              cases o with
              | ex x =>
                simp [whStep, ht, hb] at h1
                subst h1
                exact q
              | ok f =>
                cases f with
                | nx ρ' =>
                  simp [whStep, ht, hb] at h1
                  exact fun F' H' σ' ok' => ⟨F', ρ', s3, ok', h1⟩
                | cnt ρ' =>
                  simp [whStep, ht, hb] at h1
                  exact fun F' H' σ' ok' => ⟨F', ρ', s3, ok', h1⟩
                | brk ρ' =>
                  simp [whStep, ht, hb] at h1
                  subst h1
                  exact q
                | ret ρ' d =>
                  simp [whStep, ht, hb] at h1
                  subst h1
                  exact q
/-- the base's lower bound raised, lowered -/
theorem EnvOk.raise {B : Bs} {F H G : Hp} {σ : L2.St} {ρ : Env} {s : St} (ok : EnvOk k B F H σ ρ s) (h : Same G F) : EnvOk k { B with G := G } F H σ ρ s := ⟨ok.ext, h, ok.len, ok.sl⟩
theorem EnvOk.lower {B : Bs} {F H G : Hp} {σ : L2.St} {ρ : Env} {s : St} (ok : EnvOk k { B with G := G } F H σ ρ s) (h : Same B.G G) : EnvOk k B F H σ ρ s := ⟨ok.ext, h.trans ok.gf, ok.len, ok.sl⟩
def nsB (e : Expr) : Bool := match e with
  | .Set _ _ _ => false
  | _ => true
theorem nsB_ok {e : Expr} (h : nsB e = true) (env : PySem.Env) (x : Value) : foldedSetIterable e env x = pure x := by
  cases e <;> first | rfl | cases h
theorem r_for (g : Good k P n c W X) (hh : c.hot = false) {gt : G} {it : I} {b : List S} {tg e : Expr} {sb : List Stmt} {pos : Pos} (pi : PI X tg e (tI k W Y false it)) (pg : PG X tg (gD X.K gt)) (pb : PSs X sb (tSs k W Y b)) (hn : nsB e = true) : PS X (.For tg e sb [] pos) (tS k W Y (.for gt it b)) := by
  refine PSw (ps_for g.po (g.calm hh) pi pg pb (hs := nsB_ok hn X.env)) fun D σ H ⟨B, F, ρ, s, ok, q⟩ => ⟨B, F, ρ, s, ok, ?_⟩
  rw [g.hK]
  have q : PostS k W B D (bnd (evI Y false it ρ s) fun ds s => forGo (fun d ρ s => bnd (Ev.lift (bindG gt d ρ) s) fun ρ' s => evSs Y b ρ' s) ds ρ s) := by simpa only [evS] using q
  refine (PostS.bnd ok q).mono fun ds s1 F1 H1 E1 q J wd => ?_
  have ok1 := ok.next E1
  generalize hf : (fun d ρ s => bnd (Ev.lift (bindG gt d ρ) s) fun ρ' s => evSs Y b ρ' s) = f at q
  refine ⟨fun i m σ H => m = ds.length - i ∧ i ≤ ds.length ∧ ∃ F ρ s, EnvOk k { B with G := F1 } F H σ ρ s ∧ PostS k W B D (forGo f (ds.drop i) ρ s), ⟨_, rfl, Nat.zero_le _, F1, ρ, s1, ok1.raise (Same.refl _), q⟩, ?_⟩
  rintro i m σ2 H2 ⟨rfl, hi, F2, ρ2, s2, ok2, q2⟩
  have lt : Later k false F1 H1 s1 F2 H2 s2 := ⟨ok2.gf, ok2.ext.fh, ok2.ext.hand⟩
  by_cases hlt : i < ds.length
  · refine .inr ⟨wd.go i F2 H2 s2 hlt lt, fun σ' H' => ∃ F ρ s, EnvOk k { B with G := F1 } F H' σ' ρ s ∧ PostS k W B D (forGo f (ds.drop (i + 1)) ρ s), fun σ' H' z => ⟨_, by omega, rfl, hlt, z⟩, fun x H3 y => ?_⟩
    have hd : ds[i]? = some ds[i] := List.getElem?_eq_getElem hlt
    obtain ⟨F3, E3, r3⟩ := wd.yld i ds[i] F2 H2 s2 x H3 hd lt y
    rw [List.drop_eq_getElem_cons hlt] at q2
    have q2 : PostS k W B D (bnd (f ds[i] ρ2 s2) fun r s => match r with
      | .nx ρ' => forGo f (ds.drop (i + 1)) ρ' s
      | .cnt ρ' => forGo f (ds.drop (i + 1)) ρ' s
      | .brk ρ' => Ev.ok (.nx ρ') s
      | .ret ρ' d => Ev.ok (.ret ρ' d) s) := q2
    rw [← hf] at q2
    cases hb : bindG gt ds[i] ρ2 with
    | none => simp only [hb, lift_none, bnd_none] at q2; exact q2.elim
    | some ρ' =>
      simp only [hb, lift_some, bnd_ok] at q2
      refine bind_ok gt ds[i] x σ2 ρ2 ρ' _ (ok2.next E3) r3 hb fun σ4 ok4 _ => ⟨{ B with G := F1 }, F3, ρ', s2, ok4, ?_⟩
      revert q2
      cases hs : evSs Y b ρ' s2 with
      | none => intro q2; exact q2.elim
      | some o =>
        obtain ⟨o, s5⟩ := o
        cases o with
        | ex x => intro q2; exact q2
        | ok fl =>
          cases fl with
          | nx ρ5 => intro q2; exact fun F' H' σ' ok' => ⟨F', ρ5, s5, ok', by rw [← hf]; exact q2⟩
          | cnt ρ5 => intro q2; exact fun F' H' σ' ok' => ⟨F', ρ5, s5, ok', by rw [← hf]; exact q2⟩
          | brk ρ5 => intro q2; exact fun F' H' σ' ok' => q2 F' H' σ' (ok'.lower (ok.gf.trans E1.ff))
          | ret ρ5 d => intro q2; exact fun F' H' σ' v ok' r => q2 F' H' σ' v (ok'.lower (ok.gf.trans E1.ff)) r
  · have e : i = ds.length := by omega
    subst e
    rw [List.drop_length] at q2
    exact .inl ⟨wd.stop F2 H2 s2 lt, q2 F2 H2 σ2 (ok2.lower (ok.gf.trans E1.ff))⟩
end
end Ev
set_option maxHeartbeats 4000000
/-! EvBlk: a comprehension's block. -/
namespace Ev
open PySem PySem.Spec PyProof.Rows L2
def relS (sc scope : Scope) : Scope :=
  { scope with names := scope.names.map fun q => if (q.2 == .free && sc.kind == .function && sc.names.lookup q.1 == some .cell) = true then (q.1, .cell) else (q.1, q.2) }
def Ck.blk (c : Ck) (scope : Scope) : Ck := ⟨c.N, relS c.sc scope, fun x => scope.names.lookup x == some .cell, false, false, [], ""⟩
section
variable {k : Kx} {P : Pg} {n : Nat} {c : Ck} {W : XK} {X : Cx} {Y : Cf}
theorem Good.blk (g : Good k P n c W X) (hh : c.hot = false) (s : Shared) (H : Hp) (scope : Scope) (C : Addr) (cl : List (Str × Addr)) (fp : List Addr) : Good k P n (c.blk scope) Bot (X.blk s H scope (compEnvC scope cl C X.env) fp) where
  hK := g.hK
  hw := g.hw
  hN := g.hN
  nd := g.nd
  sc := by rw [Ck.blk, ← g.sc]; rfl
  fn := rfl
  calm := fun _ => g.calm hh
  exI := fun _ _ _ _ _ _ _ _ h => by cases h
  po := PassesOwn.never
  room := fun _ => g.room hh
  u65 := g.u65
  tk := takes0
  fl := g.fl
  blt := g.blt
  gl := g.gl
  calls := g.calls
  objs := g.objs
  objT := g.objT
  ownN := g.ownN
  clsG := g.clsG
  news := g.news
  hnl := g.hnl
  wds := fun h => by cases h
  hfn := g.hfn
  hcl := g.hcl
  hex := g.hex
  isi := g.isi
theorem pts_to {t : Option T} {ifs : List Expr} (h : match t, ifs with
    | none, [] => True
    | some t, [e] => PT X e (tT k W Y t)
    | _, _ => False) : PTs X ifs (tTo k W Y t) := by
  match t, ifs, h with
  | none, [], _ => exact ⟨fun pins s σ H Q I q => pts_nil.run pins s σ H Q I (by
      obtain ⟨B, F, ρ, s, ok, q⟩ := q
      exact Post.ok (show Post k W F H s (Ev.ok true s) _ from q) ok.self)⟩
  | some t, [e], h => exact pts_one h
theorem q_comp (g : Good k P n c W X) (hh : c.hot = false) {own : List (Str × Nat)} {gt : G} {it : I} {t : Option T} {e : C} {elt tg iter : Expr} {ifs : List Expr} {scope : Scope} {pos : Pos}
    (pi : PI X tg iter (tI k W Y true it)) (ok : blkC c.N c.sc scope own = true) (hv : ∀ i ∈ gvars gt, i ∈ own.map (·.2))
    (hg : ∀ X', Good k P n (c.blk scope) Bot X' → PG X' tg (gD k.K gt)) (ht : ∀ X', Good k P n (c.blk scope) Bot X' → PTs X' ifs (tTo k Bot Y t)) (he : ∀ X', Good k P n (c.blk scope) Bot X' → PE X' elt (tE k Bot Y e)) (hn : nsB iter = true) :
    PE X (.ListComp elt [⟨tg, iter, ifs, 0⟩] scope pos) (tN k W Y (.comp (own.map (·.2)) gt it t e)) :=
  PEw (pe_lc (g.calm hh) (by rw [g.hN]; exact g.nd) pi (by rw [g.hN, g.sc]; exact blkOk_by ok) (fun s H C cl fp => hg _ (g.blk hh s H scope C cl fp)) (fun s H C cl fp => ht _ (g.blk hh s H scope C cl fp)) (fun s H C cl fp => he _ (g.blk hh s H scope C cl fp)) (nsB_ok hn X.env)) fun σ H Q q => comp_read hv σ H Q q
theorem r_setComp (g : Good k P n c W X) (hh : c.hot = false) {own : List (Str × Nat)} {gt : G} {it : I} {t : Option T} {e : C} {elt tg iter : Expr} {ifs : List Expr} {scope : Scope} {i : Nat} {y : Str} {py pos spos : Pos}
    (h1 : c.N[i]? = some y) (h2 : c.sc.names.lookup y = some .local) (hsw : swapsWith (.ListComp elt [⟨tg, iter, ifs, 0⟩] scope pos) (some (.Name y py)) spos.line X.env = pure true)
    (pi : PI X tg iter (tI k W Y true it)) (ok : blkC c.N c.sc scope own = true) (hv : ∀ i ∈ gvars gt, i ∈ own.map (·.2))
    (hg : ∀ X', Good k P n (c.blk scope) Bot X' → PG X' tg (gD k.K gt)) (ht : ∀ X', Good k P n (c.blk scope) Bot X' → PTs X' ifs (tTo k Bot Y t)) (he : ∀ X', Good k P n (c.blk scope) Bot X' → PE X' elt (tE k Bot Y e)) (hn : nsB iter = true) :
    PS X (.Assign [.Name y py] (.ListComp elt [⟨tg, iter, ifs, 0⟩] scope pos) spos) (tAsg (tLc (tI k W Y true it) (gD k.K gt) (tTo k Bot Y t) (tE k Bot Y e) (own.map (·.2))) (gName i)) :=
  ps_setLc (g.calm hh) (by rw [g.hN]; exact g.nd) (by rw [g.hN]; exact h1) (by rw [g.sc]; exact h2) hsw pi (by rw [g.hN, g.sc]; exact blkOk_by ok) (fun s H C cl fp => hg _ (g.blk hh s H scope C cl fp)) (fun s H C cl fp => ht _ (g.blk hh s H scope C cl fp)) (fun s H C cl fp => he _ (g.blk hh s H scope C cl fp)) (nsB_ok hn X.env)
end
end Ev
set_option maxHeartbeats 4000000
/-! EvDc: dict comprehensions, keys tuples. -/
namespace Ev
open PySem PySem.Spec PyProof.Rows L2
section
variable {k : Kx} {X : Cx}
/-- one store of the comprehension into the new dict at d -/
def stN (k : Kx) (d : Addr) (y z : V) (H : Hp) (N : Hp → Prop) : Prop := ∃ F kas kvs a e x b, Same F H ∧ H d = some (nestO k.w d kas) ∧ RepN k F kas kvs ∧ y = .ref b ∧ Rep k F y a ∧ nkT a = some x ∧ kas.length < sizeLine ∧ Rep k F z e ∧ N (upd H d (nestO k.w d (putN kas x b z)))
theorem stN_ok (hK : X.K = k.K) (hw : X.w = k.w) (hu : X.A.units + 65 < cLine) {pins : List (Addr × Obj)} {σ : L2.St} {H : Hp} {s : Shared} {E : Value → Shared → Prop} {d : Addr} {y z : V} {u r : Value} {N : Hp → Prop} {Q : Unit → Shared → Prop} (I : Inv X pins σ H s) (ry : RelV y u) (rz : RelV z r) (q : stN k d y z H N)
    (h : ∀ s' H', Inv X pins σ H' s' → N H' → Q () s') : wpAny (model X.prog X.w) X.A (dictSet d u r) Q E s := by
  obtain ⟨F, kas, kvs, a, e, x, b, fh, h1, h2, e0, h3, h4, h5, h6, q⟩ := q
  subst e0
  obtain ⟨b', eb, h7, h8⟩ := nkT_is I hK fh h3 h4
  cases eb
  cases (show _ = _ from ry)
  obtain ⟨z1, hd, xs, pr, dd⟩ := dict_of I hK hw fh h1 h2
  have nd : (xs.map (·.1)).Nodup := by obtain ⟨_, _, _, _, _, _, _, _, h⟩ := dd; exact h
  have hl := Paired.length pr
  refine wpAny_dictSet_heap (hsz := by omega) (show (nestedKind X.prog X.w).room X.A by show X.A.units + 8 < cLine; omega) ⟨h7, h8⟩ dd fun h' dd' hs => ?_
  have he : ∃ q, h'.get? d = some q := let ⟨q, _, _, hq, _⟩ := dd'; ⟨q, hq⟩
  refine h _ _ (d_write I (by rw [h1]; exact True.intro) hs he ?_) q
  rw [← hw]
  exact nest_ok (Nat.le_trans (putN_len _ _ _ _) h5) hd (putN_pair rz pr nd) dd'
/-- {y: z for target in iter if ..} -/
def tDn (k : Kx) (wi : TI) (g : TG) (tt : TT) (tk tv : TE) (vs : List Nat) : TE := fun σ H Q => wi σ H fun J H1 => ∀ d, H1 d = none → ∃ W : Nat → Nat → Hp → Prop, (∃ m, W 0 m (upd H1 d (nestO k.w d []))) ∧ ∀ i m H, W i m H →
  (J.stop i H ∧ Q (.ref d) H) ∨ (J.go i H ∧ ∃ Nx : Hp → Prop, (∀ H', Nx H' → ∃ m', m' < m ∧ W (i + 1) m' H') ∧ ∀ x H', J.yld i H x H' → g x (wipe σ vs) H' fun σ2 H2 => wipe σ2 vs = wipe σ vs ∧ tt σ2 H2 fun b H3 =>
    if b = true then tk σ2 H3 fun y H4 => tv σ2 H4 fun z H5 => stN k d y z H5 Nx else Nx H3)
theorem dn_core (hK : X.K = k.K) (hw : X.w = k.w) (hu : X.A.units + 65 < cLine) {pins : List (Addr × Obj)} {s : Shared} {σ : L2.St} {H : Hp} {Q : VK} {kx vx tg iter : Expr} {ifs : List Expr} {scope : Scope} {own : List (Str × Nat)} {pos pos' : Pos} {wi : TI} {g : TG} {tt : TT} {tk tv : TE} {use : Option (Value → Sem Unit)} {Qf : Value → Shared → Prop}
    (hc : X.calm = true) (hN : X.N.Nodup) (I : Inv X pins σ H s) (hi : PI X tg iter wi) (ok : BlkOk X.N X.env.scope scope own)
    (hg : ∀ (s : Shared) (H : Hp) (C : Addr) (cl : List (Str × Addr)) (fp : List Addr), PG (X.blk s H scope (compEnvC scope cl C X.env) fp) tg g) (ht : ∀ (s : Shared) (H : Hp) (C : Addr) (cl : List (Str × Addr)) (fp : List Addr), PTs (X.blk s H scope (compEnvC scope cl C X.env) fp) ifs tt)
    (hk : ∀ (s : Shared) (H : Hp) (C : Addr) (cl : List (Str × Addr)) (fp : List Addr), PE (X.blk s H scope (compEnvC scope cl C X.env) fp) kx tk)
    (he : ∀ (s : Shared) (H : Hp) (C : Addr) (cl : List (Str × Addr)) (fp : List Addr), PE (X.blk s H scope (compEnvC scope cl C X.env) fp) vx tv) (hs : ∀ x, foldedSetIterable iter X.env x = pure x)
    (h : tDn k wi g tt tk tv (own.map (·.2)) σ H Q)
    (hR : ∀ d C s' m H', Inv X pins σ H' s' → Q (.ref d) H' → s'.heap.Ns C m → FpOk X pins H' C → compPost (model X.prog X.w) X.A X.xe use Qf (.ref d) C (.ok .next) s') :
    wpAny (model X.prog X.w) X.A (comprehension (.DictComp kx vx [⟨tg, iter, ifs, 0⟩] scope pos) scope X.env pos' newDict false (eval iter X.env) use) Qf X.xe s := by
  have cells : ∀ y ∈ scope.names, y.2 = .free → ∃ c, X.env.cells.lookup y.1 = some c := fun y hy e => I.ok.has _ (ok.free y hy e)
  refine wpAny_comprehension_free (use := use) rfl hs (closure_ok cells) ok.kind (fun y hy e => by rw [ok.uniq y hy, e]) (thn (hi.run pins s σ H _ I h) fun xv s1 hx => thn hx fun itv s2 h2 => ?_)
  obtain ⟨it, fp, tn, J, H2, e, I2, T, st2, f2, q⟩ := h2
  subst e
  refine wpAny_newObj_type (newEnv_comp ?_)
  generalize hd0 : s2.heap.objs.size = d
  have dn : H2 d = none := I2.hok.fresh (Nat.le_of_eq hd0)
  obtain ⟨Wn, ⟨m0, w0⟩, turn⟩ := q d dn
  generalize hs3 : ({ s2 with heap := s2.heap.push { cls := .type "dict", data := .dict #[] } } : Shared) = s3
  have h3 : s3.heap = s2.heap.push { cls := .type "dict", data := .dict #[] } := by rw [← hs3]
  have I3 : Inv X pins σ (upd H2 d (nestO k.w d [])) s3 := by
    rw [← hs3]
    refine I2.laid (t' := s2.toks) (fun b o e => Heap.get?_push_of_some _ e) (Nat.le_of_eq hd0) ?_
    rw [← hd0]
    exact nest_ok (H := upd H2 s2.heap.objs.size (nestO k.w s2.heap.objs.size [])) (xs := []) (Nat.zero_le _) (beq_eq_false_iff_ne.mpr (Ne.symm (Nat.ne_of_lt I2.big))) .nil (by rw [← hw]; exact (Heap.DictOfH.new (knd := nestedKind X.prog X.w) s2.heap))
  have low : ∀ b ∈ fp, b < s2.heap.objs.size := fun b hb => by
    obtain ⟨o, e, _⟩ := T.obj _ _ st2 b hb
    exact Heap.lt_size e
  have f3 : ∀ b ∈ fp, FpOk X pins (upd H2 d (nestO k.w d [])) b ∧ b < s3.heap.objs.size := fun b hb => by
    have lt := low b hb
    refine ⟨⟨?_, (f2 b hb).2⟩, by rw [h3, Heap.size_push]; exact Nat.lt_succ_of_lt lt⟩
    rw [upd_ne (by rw [← hd0]; exact Nat.ne_of_lt lt)]
    exact (f2 b hb).1
  have st3 : tn 0 s3.heap := T.keep _ _ _ st2 fun b _ o e => by rw [h3]; exact Heap.get?_push_of_some _ e
  have I4 := block_start I3 ok hN f3
  generalize hcl : cellsFrom (s3.heap.objs.size + 1) scope.names (cloFrom X.env.cells scope.names []) = cl at I4
  have pg := hg s3 (upd H2 d (nestO k.w d [])) s3.heap.objs.size cl fp
  have pt := ht s3 (upd H2 d (nestO k.w d [])) s3.heap.objs.size cl fp
  have pk := hk s3 (upd H2 d (nestO k.w d [])) s3.heap.objs.size cl fp
  have pe := he s3 (upd H2 d (nestO k.w d [])) s3.heap.objs.size cl fp
  show codeAny _ _ (.compStart (.DictComp kx vx [⟨tg, iter, ifs, 0⟩] scope pos) 0 (.ref it) (.ref d) (compEnvC scope cl s3.heap.objs.size X.env)) (compPost (model X.prog X.w) X.A X.xe use Qf (.ref d) s3.heap.objs.size) { s3 with heap := pushCells (s3.heap.push { cls := .type "dict", data := .dict #[] }) scope.names }
  have nfp : ∀ b ∈ fp, (upd H2 d (nestO k.w d [])) b = none := fun b hb => (f3 b hb).1.1
  generalize hce : compEnvC scope cl s3.heap.objs.size X.env = ce at I4 pg pt pk pe ⊢
  have cL : ce.locals = s3.heap.objs.size := by subst hce; rfl
  generalize hH3 : upd H2 d (nestO k.w d []) = H3 at I3 I4 pg pt pk pe w0 nfp f3
  generalize hs4 : ({ s3 with heap := pushCells (s3.heap.push { cls := .type "dict", data := .dict #[] }) scope.names } : Shared) = s4 at I4 ⊢
  have st4 : tn 0 s4.heap := T.keep _ _ _ st3 fun b _ o e => by rw [← hs4]; exact pushCells_keeps _ _ _ _ (Heap.get?_push_of_some _ e)
  have fpB : ∀ {σ' : L2.St} {H' : Hp} {s' : Shared}, Inv (X.blk s3 H3 scope ce fp) [] σ' H' s' → (∀ b ∈ fp, H' b = none) → ∀ b ∈ fp, FpOk (X.blk s3 H3 scope ce fp) [] H' b := fun {σ' H' s'} I' hn b hb =>
    ⟨hn b hb, (I'.ok.exf b hb).1, I'.ok.exfs b hb, .inl hb, fun x c e => (I'.ok.exf b hb).2 x c e, fun p hp => absurd (show p ∈ ([] : List (Addr × Obj)) ++ [] from hp) (by simp)⟩
  refine codeAny_compStart_dict ?_ (T.self X.A 0 _ _ _ st4 ?_)
  all_goals
    refine compLoop_anyD (fun n s' => ∃ i H', Inv (X.blk s3 H3 scope ce fp) [] (wipe σ (own.map (·.2))) H' s' ∧ tn i s'.heap ∧ (∀ b ∈ fp, H' b = none) ∧ Wn i n H') ?_ m0 ⟨0, H3, I4, st4, nfp, w0⟩
    rintro n s5 ⟨i, H5, I5, st5, n5, w5⟩
    rcases turn i n H5 w5 with ⟨stop, qq⟩ | ⟨go, Nx, hNx, step⟩
    · refine thnF (T.done (X.blk s3 H3 scope ce fp) rfl rfl rfl hc i [] s5 _ H5 (fun _ _ => False) I5 (fpB I5 n5) st5 stop) fun r s6 ⟨hr, I6⟩ => ?_
      subst hr
      have I7 : Inv X pins σ H5 s6 := I3.call' (ch := fp) I6.os I6.base I6.hok I6.bare fun b hb => ⟨(f3 b hb).1.2.2.2.1, (f3 b hb).1.2.1, (f3 b hb).1.2.2.2.2.1, (f3 b hb).1.2.2.2.2.2⟩
      have nC : H5 s3.heap.objs.size = none := by rw [← cL]; exact I6.free
      obtain ⟨m, hn, _⟩ := I6.loc
      have hn : s6.heap.Ns ce.locals m := hn
      rw [cL] at hn
      exact hR d s3.heap.objs.size s6 m H5 I7 qq hn (I3.fpOk (Nat.le_refl _) nC)
    · refine thnF (T.item (X.blk s3 H3 scope ce fp) rfl rfl rfl hc i [] s5 _ H5 (fun _ _ => False) I5 (fpB I5 n5) st5 go) fun r s6 ⟨u, hr, h6⟩ => ?_
      subst hr
      refine thnF h6 fun _ s7 ⟨x, H7, I7, r7, y7, st7, n7⟩ => ?_
      refine thnF (pg.run _ s7 _ H7 x u _ (I7.pinned (fpB I7 n7) (T.obj _ _ st7)) r7 (step x H7 y7)) fun _ s8 ⟨σ8, H8, I8, hw8, q8⟩ => ?_
      refine thnF (pt.run _ s8 σ8 H8 _ I8 q8) fun b s9 ⟨H9, I9, q9⟩ => ?_
      have fin : ∀ {s' : Shared} {H' : Hp}, Inv (X.blk s3 H3 scope ce fp) ([] ++ pinsAt fp s7.heap) σ8 H' s' → Nx H' → ∃ m, m < n ∧ ∃ i H', Inv (X.blk s3 H3 scope ce fp) [] (wipe σ (own.map (·.2))) H' s' ∧ tn i s'.heap ∧ (∀ b ∈ fp, H' b = none) ∧ Wn i m H' := fun {s' H'} I' nx => by
        obtain ⟨m', hm, w'⟩ := hNx H' nx
        have pin' : ∀ b ∈ fp, ∀ o, s7.heap.get? b = some o → s'.heap.get? b = some o ∧ H' b = none := fun b hb o e =>
          let z := I'.pin (b, o) (List.mem_append_right _ (List.mem_append_right _ (mem_pinsAt hb e)))
          ⟨z.1, z.2.1⟩
        have hl : (wipe σ (own.map (·.2))).length = σ8.length := by rw [← hw8, wipe_length]
        refine ⟨m', hm, i + 1, H', (I'.unpinned (pins := [])).weak hl (fun j v e => ?_), T.keep _ _ _ st7 fun b hb o e => (pin' b hb o e).1, fun b hb => ?_, w'⟩
        · rw [← hw8] at e
          exact (wipe_some e).1
        · obtain ⟨o, e, _⟩ := T.obj _ _ st7 b hb
          exact (pin' b hb o e).2
      cases b with
      | false => exact fin I9 q9
      | true =>
        refine thnF (pk.run _ s9 σ8 H9 _ I9 q9) fun z s10 ⟨yk, H10, I10, r10, q10⟩ => ?_
        refine thnF (pe.run _ s10 σ8 H10 _ I10 q10) fun z2 s11 ⟨yv, H11, I11, r11, q11⟩ => ?_
        exact stN_ok (X := X.blk s3 H3 scope ce fp) hK hw hu I11 r10 r11 q11 fun s12 H12 I12 nx => fin I12 nx
theorem pe_dn (hK : X.K = k.K) (hw : X.w = k.w) (hu : X.A.units + 65 < cLine) {kx vx tg iter : Expr} {ifs : List Expr} {scope : Scope} {own : List (Str × Nat)} {pos : Pos} {wi : TI} {g : TG} {tt : TT} {tk tv : TE} (hc : X.calm = true) (hN : X.N.Nodup) (hi : PI X tg iter wi) (ok : BlkOk X.N X.env.scope scope own)
    (hg : ∀ (s : Shared) (H : Hp) (C : Addr) (cl : List (Str × Addr)) (fp : List Addr), PG (X.blk s H scope (compEnvC scope cl C X.env) fp) tg g) (ht : ∀ (s : Shared) (H : Hp) (C : Addr) (cl : List (Str × Addr)) (fp : List Addr), PTs (X.blk s H scope (compEnvC scope cl C X.env) fp) ifs tt)
    (hk : ∀ (s : Shared) (H : Hp) (C : Addr) (cl : List (Str × Addr)) (fp : List Addr), PE (X.blk s H scope (compEnvC scope cl C X.env) fp) kx tk)
    (he : ∀ (s : Shared) (H : Hp) (C : Addr) (cl : List (Str × Addr)) (fp : List Addr), PE (X.blk s H scope (compEnvC scope cl C X.env) fp) vx tv) (hs : ∀ x, foldedSetIterable iter X.env x = pure x) :
    PE X (.DictComp kx vx [⟨tg, iter, ifs, 0⟩] scope pos) (tDn k wi g tt tk tv (own.map (·.2))) := by
  refine ⟨fun pins s σ H Q I h => ?_⟩
  rw [arm_eval_DictComp]
  refine dn_core hK hw hu hc hN I hi ok hg ht hk he hs h fun d C s' m H' I' q hn ⟨f0, f1, f2, f3, f4, f5⟩ => ⟨m, hn, fun h'' sb => ?_⟩
  exact ⟨.ref d, H', I'.turned (t' := s'.toks) (fun b o hb e => (sb.2 b hb).trans e) f0 f1 f3 f4 f5, rfl, q⟩
theorem ps_setDn (hK : X.K = k.K) (hw : X.w = k.w) (hu : X.A.units + 65 < cLine) {i : Nat} {y : Str} {py : Pos} {kx vx tg iter : Expr} {ifs : List Expr} {scope : Scope} {own : List (Str × Nat)} {pos spos : Pos} {wi : TI} {g : TG} {tt : TT} {tk tv : TE} (hc : X.calm = true) (hN : X.N.Nodup) (hy : X.N[i]? = some y) (hyl : X.env.scope.names.lookup y = some .local)
    (hsw : swapsWith (.DictComp kx vx [⟨tg, iter, ifs, 0⟩] scope pos) (some (.Name y py)) spos.line X.env = pure true) (hi : PI X tg iter wi) (ok : BlkOk X.N X.env.scope scope own)
    (hg : ∀ (s : Shared) (H : Hp) (C : Addr) (cl : List (Str × Addr)) (fp : List Addr), PG (X.blk s H scope (compEnvC scope cl C X.env) fp) tg g) (ht : ∀ (s : Shared) (H : Hp) (C : Addr) (cl : List (Str × Addr)) (fp : List Addr), PTs (X.blk s H scope (compEnvC scope cl C X.env) fp) ifs tt)
    (hk : ∀ (s : Shared) (H : Hp) (C : Addr) (cl : List (Str × Addr)) (fp : List Addr), PE (X.blk s H scope (compEnvC scope cl C X.env) fp) kx tk)
    (he : ∀ (s : Shared) (H : Hp) (C : Addr) (cl : List (Str × Addr)) (fp : List Addr), PE (X.blk s H scope (compEnvC scope cl C X.env) fp) vx tv) (hs : ∀ x, foldedSetIterable iter X.env x = pure x) :
    PS X (.Assign [.Name y py] (.DictComp kx vx [⟨tg, iter, ifs, 0⟩] scope pos) spos) (tAsg (tDn k wi g tt tk tv (own.map (·.2))) (gName i)) := by
  refine ⟨fun pins s σ H D I h => ?_⟩
  rw [exec_Assign_Name_used _ _ _ _ hsw]
  refine wpAny_bind (wpAny_standAt (wpAny_bind ?_))
  show wpAny _ X.A (do let _ ← comprehension (.DictComp kx vx [⟨tg, iter, ifs, 0⟩] scope pos) scope X.env (firstIterPos [⟨tg, iter, ifs, 0⟩] pos) newDict false (eval iter X.env) (some (assign (.Name y py) X.env))) _ _ s
  have h : tDn k wi g tt tk tv (own.map (·.2)) σ H (fun x H1 => gName i x σ H1 D.nx) := h
  refine wpAny_bind (thn (dn_core (Qf := fun _ s' => SP X pins D .next s') hK hw hu hc hN I hi ok hg ht hk he hs h fun d C s' m H' I' q hn ⟨f0, f1, f2, f3, f4, f5⟩ => ?_) fun _ s' hq => wpAny_pure (wpAny_pure hq))
  show wpAny _ _ (assign (.Name y py) X.env (.ref d)) _ _ _
  refine wpAny_assign_Name (L2.store_ok2 (v := V.ref d) I' hN hy (.inl hyl) rfl (fun s2 I2 ⟨a, sb, ha⟩ => ?_) (.inr hyl))
  have haC : C ≠ a := by
    rcases ha with z | z
    · rw [z]; exact f1
    · exact fun e => f4 y a z e.symm
  exact ⟨m, hn.sameBut sb haC, fun h3 sb3 => ⟨_, H', I2.turned (t' := s2.toks) (fun b o hb e => (sb3.2 b hb).trans e) f0 f1 f3 f4 f5, q⟩⟩
end
end Ev
set_option maxHeartbeats 4000000
/-! EvDc2: a dict comprehension, as the evaluator reads it. -/
namespace Ev
open PySem PySem.Spec PyProof.Rows L2
theorem dictGo_cons {f : D → St → Out (Option (D × D))} {d : D} {ds : List D} {acc : List (D × D)} {s s' : St} {kvs : List (D × D)} (h : dictGo f (d :: ds) acc s = some (.ok kvs, s')) :
    ∃ y s1, f d s = some (.ok y, s1) ∧ ((y = none ∧ dictGo f ds acc s1 = some (.ok kvs, s')) ∨ ∃ a e x, y = some (a, e) ∧ nkT a = some x ∧ dictGo f ds (dPut acc a e) s1 = some (.ok kvs, s')) := by
  obtain ⟨y, s1, h1, h2⟩ := bnd_okE (show bnd (f d s) _ = _ from h)
  refine ⟨y, s1, h1, ?_⟩
  cases y with
  | none => exact .inl ⟨rfl, h2⟩
  | some p =>
    obtain ⟨a, e⟩ := p
    have h2 : (if (nkT a).isSome = true then dictGo f ds (dPut acc a e) s1 else none) = some (.ok kvs, s') := h2
    split at h2
    · rename_i g
      obtain ⟨x, hx⟩ := Option.isSome_iff_exists.mp g
      exact .inr ⟨a, e, x, rfl, hx, h2⟩
    · cases h2
section
variable {k : Kx} {P : Pg} {n : Nat} {c : Ck} {W : XK} {X : Cx} {Y : Cf}
/-- one turn of a dict comprehension's block -/
def turnD (Y : Cf) (own : List Nat) (g : G) (t : Option T) (e e2 : C) (ρ : Env) : D → St → Out (Option (D × D)) := fun d s => match bindG g d (wipeE ρ own) with
  | some ρ' => bnd (evTo Y t ρ' s) fun c s => if c = true then bnd (evE Y e ρ' s) fun y s => bnd (evE Y e2 ρ' s) fun z s => ok (some (y, z)) s else ok none s
  | none => none
structure DictW (k : Kx) (f : D → St → Out (Option (D × D))) (F1 H1 : Hp) (s1 : St) (d : Addr) (ds : List D) (kvs : List (D × D)) (s' : St) (i : Nat) (F H : Hp) (s : St) : Prop where
  ext : Ext k F1 H1 s1 F H s
  fD : F d = none
  le : i ≤ ds.length
  st : ∃ kas acc, H d = some (nestO k.w d kas) ∧ RepN k F kas acc ∧ kas.length ≤ i ∧ dictGo f (ds.drop i) acc s = some (.ok kvs, s')
theorem dcomp_read {own : List Nat} {tg : G} {it : I} {t : Option T} {e e2 : C} (hv : ∀ i ∈ gvars tg, i ∈ own) (σ : L2.St) (H : Hp) (Q : VK) (h : tN k W Y (.dcomp own tg it t e e2) σ H Q) :
    tDn k (tI k W Y true it) (gD k.K tg) (tTo k Bot Y t) (tE k Bot Y e) (tE k Bot Y e2) own σ H Q := by
  obtain ⟨B, F, ρ, s, ok0, q⟩ := h
  refine ⟨B, F, ρ, s, ok0, ?_⟩
  refine (Post.bnd (show Post k W F H s (bnd (evI Y true it ρ s) _) _ from q)).mono fun ds s1 F1 H1 E1 q1 J wd d nd => ?_
  by_cases hl : ds.length ≤ lim
  · rw [if_pos hl] at q1
    obtain ⟨kvs, s', hm, q3⟩ := mute_ok (x := dictGo (turnD Y own tg t e e2 ρ) ds [] s1) (Post.bnd q1)
    have ok1 := ok0.next E1
    refine ⟨fun i m H' => m = ds.length - i ∧ ∃ F' s2, DictW k (turnD Y own tg t e e2 ρ) F1 H1 s1 d ds kvs s' i F' H' s2, ⟨_, rfl, F1, s1, Ext.new E1.fh E1.hand nd, E1.fnone nd, Nat.zero_le _, [], [], upd_same, .nil, Nat.le_refl _, hm⟩, ?_⟩
    rintro i m H2 ⟨rfl, F2, s2, w⟩
    obtain ⟨E2, fd, hle, kas, acc, hd2, rA, hA, hg⟩ := w
    have lt : Later k true F1 H1 s1 F2 H2 s2 := E2
    by_cases hi : i < ds.length
    · refine .inr ⟨wd.go i F2 H2 s2 hi lt, fun H' => ∃ F' s2', DictW k (turnD Y own tg t e e2 ρ) F1 H1 s1 d ds kvs s' (i + 1) F' H' s2', fun H' ⟨F', s3, w⟩ => ⟨_, by omega, rfl, F', s3, w⟩, fun x H3 y => ?_⟩
      have hd : ds[i]? = some ds[i] := List.getElem?_eq_getElem hi
      obtain ⟨F3, E3, r3⟩ := wd.yld i ds[i] F2 H2 s2 x H3 hd lt y
      rw [List.drop_eq_getElem_cons hi] at hg
      obtain ⟨yo, s4, g1, g2⟩ := dictGo_cons hg
      have okw := ((ok1.next E2).next E3).wipe own
      unfold turnD at g1
      cases hb : bindG tg ds[i] (wipeE ρ own) with
      | none => rw [hb] at g1; cases g1
      | some ρ' =>
        rw [hb] at g1
        obtain ⟨cb, s5, g4, g5⟩ := bnd_okE (show bnd (evTo Y t ρ' s2) _ = _ from g1)
        refine bind_ok tg ds[i] x (L2.wipe σ own) (wipeE ρ own) ρ' _ okw r3 hb fun σ2 ok2 w2 => ⟨by rw [w2 own hv]; exact wipe_wipe own own fun _ h => h, ?_⟩
        have nm : ∀ {z : St}, z.isSome = s1.isSome → ¬ Mx k z d := fun hz m => (E1.hand.at ((Mx.iff hz).mp m)).2 nd
        have d3 : H3 d = some (nestO k.w d kas) := E3.hh d _ hd2 (nm E2.st) (plain_nest _ _ _).2
        refine ⟨B, F3, ρ', s2, ok2, ?_⟩
        rw [g4]
        intro F5 H5 E5
        have E15 := (E2.trans E3).trans E5
        have d5 : H5 d = some (nestO k.w d kas) := E5.hh d _ d3 (nm E2.st) (plain_nest _ _ _).2
        have f5 : F5 d = none := E5.nf d (by rw [nt_some d3 (plain_nest _ _ _).2]; simp) (E3.nf d (by rw [nt_some hd2 (plain_nest _ _ _).2]; simp) fd)
        have r5 := RepN.mono (E3.trans E5).ff rA
        cases cb with
        | false =>
          refine iteF ?_
          rw [if_neg Bool.false_ne_true] at g5
          obtain ⟨g6, g7⟩ := ok_E g5
          subst g6 g7
          rcases g2 with ⟨_, g2⟩ | ⟨a, e', x', g2, _⟩
          · exact ⟨F5, s5, E15, f5, by omega, kas, acc, d5, r5, by omega, g2⟩
          · cases g2
        | true =>
          refine iteT ?_
          rw [if_pos rfl] at g5
          obtain ⟨yv, s6, g6, g7⟩ := bnd_okE g5
          obtain ⟨zv, s7, g8, g9⟩ := bnd_okE g7
          obtain ⟨g10, g11⟩ := ok_E g9
          subst g10 g11
          refine ⟨B, F5, ρ', s5, ok2.next E5, ?_⟩
          rw [g6]
          intro F6 H6 E6 v6 r6
          refine ⟨B, F6, ρ', s6, (ok2.next E5).next E6, ?_⟩
          rw [g8]
          intro F7 H7 E7 v7 r7
          have E17 := (E15.trans E6).trans E7
          have d6 : H6 d = some (nestO k.w d kas) := E6.hh d _ d5 (nm E15.st) (plain_nest _ _ _).2
          have d7 : H7 d = some (nestO k.w d kas) := E7.hh d _ d6 (nm (E15.trans E6).st) (plain_nest _ _ _).2
          have f6 : F6 d = none := E6.nf d (by rw [nt_some d5 (plain_nest _ _ _).2]; simp) f5
          have f7 : F7 d = none := E7.nf d (by rw [nt_some d6 (plain_nest _ _ _).2]; simp) f6
          rcases g2 with ⟨g2, _⟩ | ⟨a, e', x', g2, g12, g13⟩
          · cases g2
          · cases g2
            have r6' := Rep.mono E7.ff r6
            have rA7 := RepN.mono (E6.trans E7).ff r5
            cases r6' <;> first | (cases g12; done) | skip
            rename_i b xs es h1 h2
            exact ⟨F7, kas, acc, _, zv, x', b, E7.fh, d7, rA7, rfl, .tup h1 h2, g12, Nat.lt_of_le_of_lt (Nat.le_trans hA (Nat.le_of_lt hi)) (Nat.lt_of_le_of_lt hl (by decide)), r7,
              F7, _, E17.grow (nt_none nd) f7 d7 (plain_nest _ _ _) E1.hand, f7, by omega, putN kas x' b v7, _, upd_same, putN_rep g12 (.tup h1 h2) r7 rA7, by have := putN_len x' b v7 kas; omega, g13⟩
    · have e : i = ds.length := by omega
      subst e
      rw [List.drop_length] at hg
      obtain ⟨g1, g2⟩ := ok_E (show ok acc s2 = _ from hg)
      subst g1 g2
      refine .inl ⟨wd.stop F2 H2 s2 lt, ?_⟩
      exact Post.ok (q3 F2 H2 E2) (Ext.refl E2.fh E2.hand) _ ⟨d, _, rfl, E1.hnone (nt_none nd), fd, hd2, kas, rfl, rA⟩
  · rw [if_neg hl] at q1
    exact q1.elim
theorem q_dcomp (g : Good k P n c W X) (hh : c.hot = false) {own : List (Str × Nat)} {gt : G} {it : I} {t : Option T} {e e2 : C} {kx vx tg iter : Expr} {ifs : List Expr} {scope : Scope} {pos : Pos}
    (pi : PI X tg iter (tI k W Y true it)) (ok : blkC c.N c.sc scope own = true) (hv : ∀ i ∈ gvars gt, i ∈ own.map (·.2))
    (hg : ∀ X', Good k P n (c.blk scope) Bot X' → PG X' tg (gD k.K gt)) (ht : ∀ X', Good k P n (c.blk scope) Bot X' → PTs X' ifs (tTo k Bot Y t)) (he : ∀ X', Good k P n (c.blk scope) Bot X' → PE X' kx (tE k Bot Y e))
    (he2 : ∀ X', Good k P n (c.blk scope) Bot X' → PE X' vx (tE k Bot Y e2)) (hn : nsB iter = true) : PE X (.DictComp kx vx [⟨tg, iter, ifs, 0⟩] scope pos) (tN k W Y (.dcomp (own.map (·.2)) gt it t e e2)) :=
  PEw (pe_dn g.hK g.hw (g.u65) (g.calm hh) (by rw [g.hN]; exact g.nd) pi (by rw [g.hN, g.sc]; exact blkOk_by ok) (fun s H C cl fp => hg _ (g.blk hh s H scope C cl fp)) (fun s H C cl fp => ht _ (g.blk hh s H scope C cl fp)) (fun s H C cl fp => he _ (g.blk hh s H scope C cl fp)) (fun s H C cl fp => he2 _ (g.blk hh s H scope C cl fp)) (nsB_ok hn X.env)) fun σ H Q q => dcomp_read hv σ H Q q
theorem r_setDcomp (g : Good k P n c W X) (hh : c.hot = false) {own : List (Str × Nat)} {gt : G} {it : I} {t : Option T} {e e2 : C} {kx vx tg iter : Expr} {ifs : List Expr} {scope : Scope} {i : Nat} {y : Str} {py pos spos : Pos}
    (h1 : c.N[i]? = some y) (h2 : c.sc.names.lookup y = some .local) (hsw : swapsWith (.DictComp kx vx [⟨tg, iter, ifs, 0⟩] scope pos) (some (.Name y py)) spos.line X.env = pure true)
    (pi : PI X tg iter (tI k W Y true it)) (ok : blkC c.N c.sc scope own = true) (hv : ∀ i ∈ gvars gt, i ∈ own.map (·.2))
    (hg : ∀ X', Good k P n (c.blk scope) Bot X' → PG X' tg (gD k.K gt)) (ht : ∀ X', Good k P n (c.blk scope) Bot X' → PTs X' ifs (tTo k Bot Y t)) (he : ∀ X', Good k P n (c.blk scope) Bot X' → PE X' kx (tE k Bot Y e))
    (he2 : ∀ X', Good k P n (c.blk scope) Bot X' → PE X' vx (tE k Bot Y e2)) (hn : nsB iter = true) :
    PS X (.Assign [.Name y py] (.DictComp kx vx [⟨tg, iter, ifs, 0⟩] scope pos) spos) (tAsg (tDn k (tI k W Y true it) (gD k.K gt) (tTo k Bot Y t) (tE k Bot Y e) (tE k Bot Y e2) (own.map (·.2))) (gName i)) :=
  ps_setDn g.hK g.hw (g.u65) (g.calm hh) (by rw [g.hN]; exact g.nd) (by rw [g.hN]; exact h1) (by rw [g.sc]; exact h2) hsw pi (by rw [g.hN, g.sc]; exact blkOk_by ok) (fun s H C cl fp => hg _ (g.blk hh s H scope C cl fp)) (fun s H C cl fp => ht _ (g.blk hh s H scope C cl fp)) (fun s H C cl fp => he _ (g.blk hh s H scope C cl fp)) (fun s H C cl fp => he2 _ (g.blk hh s H scope C cl fp)) (nsB_ok hn X.env)
end
end Ev
set_option maxHeartbeats 4000000
/-! EvIsi: isinstance, the built-in functions, what is walked beside. -/
namespace Ev
open PySem PySem.Spec PyProof.Rows L2
section
variable {k : Kx} {P : Pg} {n : Nat} {c : Ck} {W : XK} {X : Cx} {Y : Cf}
theorem kit_D (g : Good k P n c W X) {pins : List (Addr × Obj)} {σ : L2.St} {F H : Hp} {s : Shared} (I : Inv X pins σ H s) (fh : Same F H) {v : V} {d : D} {u tv : Value} {t : Str} (r : Rep k F v d) (ru : RelV v u) (ht : tagS d = some t) (hv : tagVal k t = some tv) :
    ∃ Q : Heap → Prop, PySem.W.KitX X.K u tv Q ∧ Q s.heap ∧ u ≠ .builtin "__main__.__loader__#\x6fpaque" := by
  cases r <;> first | (cases ht; done) | skip
  case non => cases ht; cases hv; exact kit_of I ru (.base .non)
  case bl => cases ht; cases hv; exact kit_of I ru (.base (.bl _))
  case int => cases ht; cases hv; exact kit_of I ru (.base (.int _))
  case str => cases ht; cases hv; exact kit_of I ru (.base (.str _))
  case tup a xs ds h1 r1 =>
    cases ht; cases hv
    cases (show _ = _ from ru)
    obtain ⟨its, rv, ⟨o, ho, hc, _⟩, _⟩ := I.tuple (by rw [g.hK]; exact sameT fh h1)
    exact ⟨_, PySem.W.kitx_tuple, ⟨o, ho, hc⟩, fun z => nomatch z⟩
  case lst a xs ds h1 r1 => cases ht; cases hv; exact kit_of I ru (.base (.lst (fh _ _ h1)))
  case dct a kas kvs h1 r1 =>
    cases ht; cases hv
    cases (show _ = _ from ru)
    obtain ⟨⟨_, _, xs, _, o, es, ep, h2, h3, _⟩, _⟩ := (show ObjOk X.prog X.w H s.heap a (nestO k.w a kas) from I.hok a _ (fh _ _ h1))
    exact ⟨_, PySem.W.kitx_dict, ⟨o, h2, h3.1⟩, fun z => nomatch z⟩
  case obj a C dx x fs ds h1 h2 h3 h4 =>
    have ht : some x = some t := ht
    injection ht with ht
    subst ht
    unfold tagVal at hv
    rw [g.ownN x C h1, h1] at hv
    cases hv
    obtain ⟨o1, o2⟩ := g.objs x C h1
    obtain ⟨o3, o4, o5, o6⟩ := g.objT x C h1
    exact kit_of I ru (.base (.ins (fh _ _ h2) o1 o3 o4 o5 o6))
/-- a class by its name -/
def clsV (k : Kx) (t : Str) : Option V := match clsNames.lookup t with
  | some n => some (.ty n)
  | none => (k.cls t).map .ref
theorem clsV_val {t : Str} {v : V} (h : clsV k t = some v) : ∃ u, clsVal k t = some u ∧ RelV v u ∧ ∀ w, RelV v w → w = u := by
  unfold clsV at h
  unfold clsVal
  split at h
  · rename_i m e
    cases h
    first | rw [e] | skip
    exact ⟨_, rfl, rfl, fun w hw => hw⟩
  · rename_i e
    obtain ⟨C, h1, rfl⟩ := Option.map_eq_some_iff.mp h
    first | rw [e, h1] | rw [h1]
    exact ⟨_, rfl, rfl, fun w hw => hw⟩
theorem pe_clsN (g : Good k P n c W X) {t : Str} {v : V} {p : Pos} (h : clsV k t = some v) (hb : glB c t = true) (ho : okN t = true) (hbt : ∀ m, clsNames.lookup t = some m → bootBuiltins t = some (.type m) ∧ t ∈ BLT) : PE X (.Name t p) (tC v) := by
  unfold clsV at h
  split at h
  · rename_i m e
    cases h
    obtain ⟨h1, h2⟩ := hbt m e
    exact ⟨fun pins s σ H Q I q => ld_blt I (g.glob hb) (g.noblt h2) h1 ⟨.ty m, H, I, rfl, q⟩ (okN_d ho).2.2 (okN_d ho).1⟩
  · obtain ⟨C, h1, rfl⟩ := Option.map_eq_some_iff.mp h
    exact pe_glob (g.glob hb) (g.clsG t C h1) rfl (okN_d ho).1
theorem clsNames_ok (t : Str) (m : String) (h : clsNames.lookup t = some m) : bootBuiltins t = some (.type m) ∧ t ∈ BLT := by
  have : ∀ q ∈ clsNames, bootBuiltins q.1 = some (.type q.2) ∧ q.1 ∈ BLT := by decide +kernel
  exact this (t, m) (PySem.mem_of_lookup h)
def rIs1 (k : Kx) : List V → Hp → VK → Prop := fun xs H Q => ∃ F v d t u b cv, Same F H ∧ xs = [v, cv] ∧ Rep k F v d ∧ tagS d = some t ∧ (tagVal k t).isSome = true ∧ clsV k u = some cv ∧ b = isiT t u ∧ Q (.bl b) H
theorem call_is1 (g : Good k P n c W X) : CallR X (.builtin "isinstance") (rIs1 k) := by
  intro pins s σ H xs us Q I r ⟨F, v, d, t, u, b, cv, fh, e0, rd, ht, hs, hc, hb, q⟩
  subst e0
  obtain ⟨u1, u2, rfl, r1, r2⟩ := vals2 r
  obtain ⟨tv, htv⟩ := Option.isSome_iff_exists.mp hs
  obtain ⟨cw, h1, h2, h3⟩ := clsV_val hc
  cases h3 _ r2
  obtain ⟨P', Z, p, hx⟩ := kit_D g I fh rd r1 ht htv
  exact PySem.W.kia_one Z I.kIn p (by rw [hb]; exact g.isi t u tv _ htv h1) hx fun tk => ⟨.bl b, H, I.tok tk, rfl, q⟩
def clsVs (k : Kx) : List Str → Option (List V)
  | [] => some []
  | t :: ts => match clsV k t, clsVs k ts with
    | some v, some vs => some (v :: vs)
    | _, _ => none
theorem kitAny_D (g : Good k P n c W X) {t : Str} {tv : Value} (ht : tagVal k t = some tv) : ∀ {us : List Str} {cvs : List V} {ws : List Value}, clsVs k us = some cvs → Vals cvs ws → PySem.W.kitAny X.K tv ws = some (us.any (isiT t))
  | [], _, _, h, r => by cases h; cases r; rfl
  | u :: us, cvs, ws, h, r => by
    simp only [clsVs] at h
    cases e1 : clsV k u with
    | none => rw [e1] at h; cases h
    | some v =>
      cases e2 : clsVs k us with
      | none => rw [e1, e2] at h; cases h
      | some vs =>
        rw [e1, e2] at h
        cases h
        cases r with
        | cons r rr =>
          obtain ⟨cw, h1, h2, h3⟩ := clsV_val e1
          cases h3 _ r
          refine kitAny_cons (b := isiT t u) (g.isi t u tv _ ht h1) (fun hb => ?_) fun hb => by rw [List.any_cons, hb]; rfl
          rw [List.any_cons, hb, Bool.false_or]
          exact kitAny_D g ht e2 rr
def rIsN (k : Kx) : List V → Hp → VK → Prop := fun xs H Q => ∃ F v d t us b cvs p, Same F H ∧ xs = [v, .ref p] ∧ H p = some (.tup cvs) ∧ Rep k F v d ∧ tagS d = some t ∧ (tagVal k t).isSome = true ∧ clsVs k us = some cvs ∧ b = us.any (isiT t) ∧ Q (.bl b) H
theorem call_isN (g : Good k P n c W X) : CallR X (.builtin "isinstance") (rIsN k) := by
  intro pins s σ H xs us Q I r ⟨F, v, d, t, us', b, cvs, tp, fh, e0, hT, rd, ht, hs, hc, hb, q⟩
  subst e0
  obtain ⟨u1, u2, rfl, r1, r2⟩ := vals2 r
  cases (show _ = _ from r2)
  obtain ⟨tv, htv⟩ := Option.isSome_iff_exists.mp hs
  obtain ⟨P', Z, p, hx⟩ := kit_D g I fh rd r1 ht htv
  obtain ⟨_, its, rv, o, h1, h2, m, h3⟩ := (show ObjOk X.prog X.w H s.heap tp (.tup cvs) from I.hok tp _ hT)
  obtain ⟨oc, od, dt, sl⟩ := o
  simp only at h2 h3
  subst h2 h3
  exact PySem.W.kia_tup Z I.kIn p h1 (by rw [hb]; exact kitAny_D g htv hc rv) hx fun tk => ⟨.bl b, H, I.tok tk, rfl, q⟩
def okCls (c : Ck) (ts : List Str) : Bool := ts.all fun t => glB c t && okN t
theorem q_isi1 (g : Good k P n c W X) {a : C} {u : Str} {cv : V} {ea : Expr} {p p2 pos : Pos} (hg : glB c "isinstance" = true) (pa : PE X ea (tE k W Y a)) (hp : plainB ea = true) (hu : glB c u = true ∧ okN u = true) (hc : clsV k u = some cv) (hT : ∀ t, tagNames.lookup t ≠ none ∨ (∃ C, k.cls t = some C) ∨ True) :
    PE X (.Call (.Name "isinstance" p) [ea, .Name u p2] [] pos) (tE k W Y (.isi a [u])) := by
  refine PEw (pe_callB (call_is1 g) (g.glob hg) (g.noblt (by decide)) rfl (pa_cons pa (pa_cons (pe_clsN g hc hu.1 hu.2 (fun m h => clsNames_ok u m h)) pa_nil) (star1 hp _ _)) (by decide) (by decide) (star1 hp _ _) rfl) fun σ H Q ⟨B, F, ρ, s, ok, q⟩ => ⟨B, F, ρ, s, ok, ?_⟩
  refine (Post.bnd (show Post k W F H s (bnd (evE Y a ρ s) _) _ from q)).mono fun d s1 F1 H1 E1 q v r => ?_
  obtain ⟨z, e, q⟩ := Post.lift q
  obtain ⟨b, e1, rfl⟩ := Option.map_eq_some_iff.mp e
  obtain ⟨t, e2, rfl⟩ := Option.map_eq_some_iff.mp (show (tagS d).map _ = some b from e1)
  refine ⟨F1, v, d, t, u, _, cv, E1.fh, rfl, r, e2, ?_, hc, rfl, ?_⟩
  · unfold tagVal
    cases hl : tagNames.lookup t with
    | some m => rfl
    | none =>
      cases r <;> first | (cases e2; done) | (cases e2; cases hl; done) | skip
      rename_i h1 _ _ _
      cases e2
      rw [h1]
      rfl
  · have := q F1 H1 (Ext.refl E1.fh E1.hand) (.bl (isiT t u)) (by simpa using Rep.bl (k := k) (F := F1) (isiT t u))
    exact this
theorem tag_some {F : Hp} {v : V} {d : D} {t : Str} (r : Rep k F v d) (e2 : tagS d = some t) : (tagVal k t).isSome = true := by
  unfold tagVal
  cases hl : tagNames.lookup t with
  | some m => rfl
  | none =>
    cases r <;> first | (cases e2; done) | (cases e2; cases hl; done) | skip
    rename_i h1 _ _ _
    cases e2
    rw [h1]
    rfl
def clsEs : List Str → List Expr → Bool
  | [], [] => true
  | t :: ts, .Name u _ :: es => decide (t = u) && clsEs ts es
  | _, _ => false
theorem pa_cls (g : Good k P n c W X) : ∀ {us : List Str} {es : List Expr} {cvs : List V}, clsEs us es = true → okCls c us = true → clsVs k us = some cvs → PA X es (fun σ H Q => Q cvs H)
  | [], [], _, _, _, h => by cases h; exact pa_nil
  | u :: us, .Name v p :: es, cvs, he, hk, h => by
    simp only [clsEs, Bool.and_eq_true, decide_eq_true_eq] at he
    obtain ⟨rfl, he⟩ := he
    simp only [okCls, List.all_cons, Bool.and_eq_true] at hk
    simp only [clsVs] at h
    cases e1 : clsV k u with
    | none => rw [e1] at h; cases h
    | some v =>
      cases e2 : clsVs k us with
      | none => rw [e1, e2] at h; cases h
      | some vs =>
        rw [e1, e2] at h
        cases h
        exact PAw (pa_cons (pe_clsN g e1 hk.1.1 hk.1.2 (fun m h => clsNames_ok u m h)) (pa_cls g he (by simpa [okCls] using hk.2) e2)) fun σ H Q q => q
theorem q_isiN (g : Good k P n c W X) {a : C} {us : List Str} {cvs : List V} {ea : Expr} {es : List Expr} {x1 : Nat} {p p2 pos : Pos} (hg : glB c "isinstance" = true) (pa : PE X ea (tE k W Y a)) (hp : plainB ea = true) (hu : okCls c us = true) (he : clsEs us es = true) (hz : us.length ≤ 100) (hc : clsVs k us = some cvs) :
    PE X (.Call (.Name "isinstance" p) [ea, .Tuple es x1 p2] [] pos) (tE k W Y (.isi a us)) := by
  have len : ∀ {us : List Str} {cvs : List V}, clsVs k us = some cvs → cvs.length = us.length := by
    intro us
    induction us with
    | nil => intro cvs h; cases h; rfl
    | cons u us ih =>
      intro cvs h
      simp only [clsVs] at h
      cases e1 : clsV k u with
      | none => rw [e1] at h; cases h
      | some v => cases e2 : clsVs k us with
        | none => rw [e1, e2] at h; cases h
        | some vs => rw [e1, e2] at h; cases h; simp [ih e2]
  refine PEw (pe_callB (call_isN g) (g.glob hg) (g.noblt (by decide)) rfl (pa_cons pa (pa_cons (pe_tup (pa_cls g he hu hc)) pa_nil) (star1 hp _ _)) (by decide) (by decide) (star1 hp _ _) rfl) fun σ H Q ⟨B, F, ρ, s, ok, q⟩ => ⟨B, F, ρ, s, ok, ?_⟩
  refine (Post.bnd (show Post k W F H s (bnd (evE Y a ρ s) _) _ from q)).mono fun d s1 F1 H1 E1 q v r => ?_
  obtain ⟨z, e, q⟩ := Post.lift q
  obtain ⟨b, e1, rfl⟩ := Option.map_eq_some_iff.mp e
  obtain ⟨t, e2, rfl⟩ := Option.map_eq_some_iff.mp (show (tagS d).map _ = some b from e1)
  refine ⟨by rw [len hc]; exact Nat.le_trans hz (by decide), fun tp np => ?_⟩
  have E2 : Ext k F1 H1 s1 F1 (upd H1 tp (.tup cvs)) s1 := Ext.new E1.fh E1.hand np
  exact ⟨F1, v, d, t, us, _, cvs, tp, E2.fh, rfl, upd_same, r, e2, tag_some r e2, hc, rfl, q F1 _ E2 _ (Rep.bl _)⟩
/-- built-in functions -/
theorem q_blt (g : Good k P n c W X) (hh : c.hot = false) {b : Blt} {f : Str × Value} {ts : List C} {e : Expr} {es : List Expr} {p pos : Pos} (hb : bltOf b = some f) (hg : glB c f.1 = true) (pa : PA X (e :: es) (tAB k W Y ts)) (hp : (e :: es).all plainB = true) : PE X (.Call (.Name f.1 p) (e :: es) [] pos) (tN k W Y (.blt b ts)) := by
  rw [List.all_cons, Bool.and_eq_true] at hp
  have key : ∀ {r : List V → Hp → VK → Prop}, CallR X f.2 r → PE X (.Call (.Name f.1 p) (e :: es) [] pos) (tCB r (tAB k W Y ts)) := by
    intro r hr
    cases b <;> first | (cases hb; done) | (cases hb; first | exact pe_callB hr (g.glob hg) (g.noblt (by decide)) rfl pa (by decide) (by decide) (star1 hp.1 es _) (stars hp.2 pos _) | exact pe_callTy hr (g.glob hg) (g.noblt (by decide)) rfl pa (by decide) (by decide) (star1 hp.1 es _) (stars hp.2 pos _))
  refine PEw (key (blt_ok g.hK g.hw (g.calm hh) b f hb)) fun σ H Q ⟨B, F, ρ, s, ok, q⟩ => ⟨B, F, ρ, s, ok, ?_⟩
  refine (Post.bnd (show Post k W F H s (bnd (evBs Y ts ρ s) _) _ from q)).mono fun ds s1 F1 H1 E1 q vs r => ?_
  obtain ⟨d, e, q⟩ := Post.lift q
  exact ⟨F1, s1, ds, d, E1.fh, E1.hand, r, e, fun v' F' H' E' r' => q F' H' E' v' (r'.up fun p h => E1.hnone h)⟩
theorem q_dct0 (g : Good k P n c W X) {pos : Pos} : PE X (.Dict [] [] pos) (tN k W Y .dct0) := by
  refine PEw (pe_dict0 (k := k) g.hw) fun σ H Q ⟨B, F, ρ, s, ok, q⟩ p np => ?_
  exact q F _ (Ext.new ok.ext.fh ok.ext.hand np) _ ⟨p, _, rfl, nt_none np, Ext.fn ok.ext.fh np, upd_same, [], rfl, .nil⟩
theorem q_glob (g : Good k P n c W X) {x : Str} {d : D} {p : Pos} (hx : P.gl x = some d) (hb : glB c x = true) (ho : okN x = true) : PE X (.Name x p) (tE k W (cfOf P n) (.glob x)) := by
  obtain ⟨u, v, h1, h2, h3⟩ := g.gl x d hx
  refine q_sc (pe_glob (g.glob hb) h1 h2 (okN_d ho).1) (fun ρ s => ?_) h3
  show lift (P.gl x) s = ok d s
  rw [hx]
  rfl
end
end Ev
set_option maxHeartbeats 4000000
/-! EvEnum: enumerate of a list or a tuple, zip. -/
namespace EvN
open PySem
open PySem.Sem (wp)
theorem meets_enum1 {v : Value} {o : Obj} {H : Heap → Prop} (B : Begins v o H) :
    Meets (Builtin.«enumerate.__new__» ⟨[.type "enumerate", v], []⟩) (fun _ R s => H s.heap ∧
      R (.ok (.ret (.ref (s.heap.push o).objs.size))) { s with heap := (s.heap.push o).push { cls := .type "enumerate", data := .fields #[.none, .bool false, .ref s.heap.objs.size, rawInt 0, .none, .none] } }) :=
  .of_wp fun prog w A R s h => by
    obtain ⟨hp, g, d, tk, os⟩ := s
    obtain ⟨h1, h⟩ := h
    have hsub := sub_enumerate
    have q1 : ∀ {A' : Around} {E : Value → Shared → Prop} {Q : Value → Shared → Prop}, Q (.ref hp.objs.size) ⟨hp.push o, g, d, tk, os⟩ → wpAny (model prog w) A' (pyIter v) Q E ⟨hp, g, d, tk, os⟩ :=
      fun q => B.iter prog w _ _ ⟨hp, g, d, tk, os⟩ _ h1 q
    wp_walk using q1
    refine wpAny_stack_any fun st => wpAny_pure ?_
    split
    · rename_i c _ _ _ _ _
      cases (c == Value.type "enumerate") <;> (wp_walk using q1; exact ⟨_, rfl, h⟩)
    · wp_walk using q1
      exact ⟨_, rfl, h⟩
theorem call_enum1 {prog : Program} {w : World} {A : Around} {E : Value → Shared → Prop} {s : Shared} {v : Value} {o : Obj} {H : Heap → Prop} {Q : Value → Shared → Prop} (B : Begins v o H) (h1 : H s.heap)
    (h : ∀ h', IsEnum h' (s.heap.objs.size + 1) s.heap.objs.size 0 .none → h'.get? s.heap.objs.size = some o → h'.objs.size = s.heap.objs.size + 2 → (∀ b u, s.heap.get? b = some u → h'.get? b = some u) → Q (.ref (s.heap.objs.size + 1)) { s with heap := h' }) :
    wpAny (model prog w) A (call (.type "enumerate") [v]) Q E s := by
  refine callType_new F.called_enumerate (by decide) (F.typeCall_enumerate_1 _) (F.newCall_enumerate_1 _) (fun obj => F.args_object_init_2 obj _) F.entry_enumerate_new (meets_enum1 B) ⟨h1, ?_⟩
  have hz : (s.heap.push o).objs.size = s.heap.objs.size + 1 := Heap.size_push ..
  show _ ∧ _
  rw [hz]
  have he : IsEnum ((s.heap.push o).push { cls := .type "enumerate", data := .fields #[.none, .bool false, .ref s.heap.objs.size, rawInt 0, .none, .none] }) (s.heap.objs.size + 1) s.heap.objs.size 0 .none := by
    have := Heap.get?_push_size (s.heap.push o) (o := { cls := .type "enumerate", data := .fields #[.none, .bool false, .ref s.heap.objs.size, rawInt 0, .none, .none] }) rfl
    rw [hz] at this
    exact this
  exact ⟨⟨_, he, rfl⟩, h _ he (Heap.get?_push_of_some _ (Heap.get?_push_size _ B.free)) (by rw [Heap.size_push, hz]) fun b u x => Heap.get?_push_of_some _ (Heap.get?_push_of_some _ x)⟩
end EvN
namespace Ev
open PySem PySem.Spec PyProof.Rows L2
/-- the tuple at a, each item in a new pair -/
def IteT (K : PySem.W.Frag) (a : Addr) : It :=
  ⟨fun i H => ∃ (xs : List V) (x : V), SqT K H a xs ∧ xs[i]? = some x, fun i H v H' => ∃ T x, v = .ref T ∧ H T = none ∧ H' = upd H T (.tup [.int (i : Nat), x]) ∧ ∀ xs, SqT K H a xs → xs[i]? = some x, fun i H => ∃ xs : List V, SqT K H a xs ∧ xs.length = i⟩
theorem turn_enumT {P : Program} {w : World} {K : PySem.W.Frag} {elts : List Expr} {kk : Nat} {tpos : Pos} (a e it : Addr) :
    Turn P w K (.Tuple elts kk tpos) (IteT K a) [e, it] e (fun i h => (∃ old, IsEnum h e it ((i : Nat) : Int) old) ∧ h.IsTupleIter it a i ∧ e ≠ it ∧ a ≠ it ∧ a ≠ e) where
  mem := by simp
  obj := fun i h st b hb => by
    obtain ⟨⟨old, he⟩, ⟨o, ho, hc, hd⟩, _⟩ := st
    have e' : b = e ∨ b = it := by simpa using hb
    rcases e' with z | z
    · rw [z]; exact ⟨_, he, fun v q => nomatch q⟩
    · rw [z]; exact ⟨o, ho, fun v q => by rw [hd] at q; cases q⟩
  keep := fun i h h' st k => let ⟨⟨old, he⟩, hi, hne⟩ := st; ⟨⟨old, k e (by simp) _ he⟩, hi.at fun o q => k it (by simp) o q, hne⟩
  item := by
    intro X hP hw hK hc i pins s σ H E I hf st hg
    subst hP hw hK
    obtain ⟨⟨old, he⟩, hit, hne, hai, hae⟩ := st
    obtain ⟨xs, x, hq, hx⟩ := hg
    obtain ⟨its, rv, p, hz⟩ := I.tuple hq
    obtain ⟨u, hu, ru⟩ := rv.get hx
    have hel : e < s.heap.objs.size := Heap.lt_size he
    have hil : it < s.heap.objs.size := by obtain ⟨_, q, _⟩ := hit; exact Heap.lt_size q
    have hlt : i < its.toArray.size := by
      rw [List.size_toArray]
      cases q : decide (i < its.length) with
      | true => exact of_decide_eq_true q
      | false => rw [List.getElem?_eq_none (by simpa using of_decide_eq_false q)] at hu; cases hu
    refine wpAny_pyNext_enum_itemD (Draws.tuple (show X.A.in1.handled = none from I.ok.hd hc) it a hai its.toArray) he (show s.heap.IsTupleIter it a i ∧ s.heap.IsTuple a its.toArray from ⟨hit, p⟩) hlt hne (fun z => by rcases List.mem_cons.mp z with z | z; exact hne z; exact hae (List.mem_singleton.mp z).symm) fun y h' tk hP ho hst hT hsz hk => ?_
    have hy : y = u := by
      have hP : its.toArray[i]? = some y := hP
      rw [List.getElem?_toArray, hu] at hP
      cases hP
      rfl
    subst hy
    refine ⟨_, rfl, wpAny_letOwnedTupleGo_enum (s := { s with heap := h', toks := tk + 1 }) ho fun h'' he' sb => ?_⟩
    have hT2 : h''.get? s.heap.objs.size = some { cls := .type "tuple", data := .seq #[.int i tk, y] } := (sb.2 _ (Nat.ne_of_gt hel)).trans hT
    have new : ObjOk X.prog X.w (upd H s.heap.objs.size (.tup [.int (i : Nat), x])) h'' s.heap.objs.size (.tup [.int (i : Nat), x]) :=
      ⟨by show 2 ≤ sizeLine; decide, [.int i tk, y], .cons ⟨_, rfl⟩ (.cons ru .nil), ⟨_, hT2, rfl, _, rfl⟩⟩
    have I1 : Inv X pins σ (upd H s.heap.objs.size (.tup [.int (i : Nat), x])) { s with heap := h'', toks := tk + 1 } :=
      I.turnedNew (ch := [e, it]) (fun b ob hb q => (sb.2 b (fun z => hb (by simp [z]))).trans (hk b ob (fun z => hb (by simp [z])) (fun z => hb (by simp [z])) q)) hf (Nat.le_refl _) new
    refine ⟨.ref s.heap.objs.size, _, I1, rfl, ⟨_, x, rfl, I.hok.fresh (Nat.le_refl _), rfl, fun ys hy => by rw [I.tuple_inj hy hq]; exact hx⟩, ⟨⟨y, ?_⟩, hst.1.at fun o q => (sb.2 it (Ne.symm hne)).trans q, hne, hai, hae⟩, fun b hb => ?_⟩
    · have e1 : ((i + 1 : Nat) : Int) = (i : Int) + 1 := by omega
      rw [e1]; exact he'
    · have hb' : b < s.heap.objs.size := by
        have e' : b = e ∨ b = it := by simpa using hb
        rcases e' with z | z
        · rw [z]; exact hel
        · rw [z]; exact hil
      rw [upd_ne (Nat.ne_of_lt hb')]
      exact (hf b hb).1
  done := by
    intro X hP hw hK hc i pins s σ H E I hf st hg
    subst hP hw hK
    obtain ⟨⟨old, he⟩, hit, hne, hai, hae⟩ := st
    obtain ⟨xs, hq, hx⟩ := hg
    obtain ⟨its, rv, p, hz⟩ := I.tuple hq
    obtain ⟨f0, f1, f2, f3, f4, f5⟩ := hf it (by simp)
    have hl := rv.length
    refine wpAny_pyNext_enum_endD (Draws.tuple (show X.A.in1.handled = none from I.ok.hd hc) it a hai its.toArray) he (show s.heap.IsTupleIter it a its.toArray.size ∧ s.heap.IsTuple a its.toArray from ⟨by rw [List.size_toArray, ← hl, hx]; exact hit, p⟩) fun h' eb => ⟨rfl, I.turned (t' := s.toks) (fun b o hb q => eb b o hb q) f0 f1 f3 f4 f5⟩
  self := fun A i s Q E st h => let ⟨⟨_, he⟩, _⟩ := st; wpAny_pyIter_enum he h
def iEnumA (K : PySem.W.Frag) (ta : TA) : TI := fun σ H R => ta σ H fun vs H1 => ∃ a, vs = [.ref a] ∧ (((∃ xs, SqL K H1 a xs) ∧ R (Ite K a) H1) ∨ ((∃ xs, SqT K H1 a xs) ∧ R (IteT K a) H1))
theorem pi_enumA {X : Cx} {e : Expr} {ta : TA} {p pos tpos : Pos} {elts : List Expr} {kk : Nat} (hg : Gl X "enumerate") (hm : X.mg "enumerate" = none) (ha : PA X [e] ta) (hs : starEach [e] X.env = [(false, eval e X.env)]) :
    PI X (.Tuple elts kk tpos) (.Call (.Name "enumerate" p) [e] [] pos) (iEnumA X.K ta) := by
  refine ⟨fun pins s σ H R I h => ?_⟩
  refine Call_ (ld_blt I hg hm boot_enumerate (PyProof.Rows.callWith_type1 (thn (ha.run pos pins s σ H _ I h) fun us s1 ⟨vs, H1, I1, r1, q1⟩ => ?_) hs rfl))
  obtain ⟨a, ex, q⟩ := q1
  subst ex
  obtain ⟨u, rfl, ru⟩ := vals1 r1
  cases (show _ = _ from ru)
  have fin : ∀ {J : It} {tn : Nat → Heap → Prop} {h' : Heap}, (∀ b o, s1.heap.get? b = some o → h'.get? b = some o) → IsEnum h' (s1.heap.objs.size + 1) s1.heap.objs.size 0 .none →
      Turn X.prog X.w X.K (.Tuple elts kk tpos) J [s1.heap.objs.size + 1, s1.heap.objs.size] (s1.heap.objs.size + 1) tn → tn 0 h' → R J H1 →
      wpAny (model X.prog X.w) X.A (pyIter (.ref (s1.heap.objs.size + 1))) (PIE X pins σ (.Tuple elts kk tpos) R) X.xe { s1 with heap := h' } := by
    intro J tn h' hk he T st q
    refine wpAny_pyIter_enum he ?_
    have I2 : Inv X pins σ H1 { s1 with heap := h' } := I1.kept (t' := s1.toks) hk
    refine ⟨s1.heap.objs.size + 1, [s1.heap.objs.size + 1, s1.heap.objs.size], _, _, H1, rfl, I2, T, st, fun b hb => ?_, q⟩
    have e' : b = s1.heap.objs.size + 1 ∨ b = s1.heap.objs.size := by simpa using hb
    have hle : s1.heap.objs.size ≤ b := by
      rcases e' with z | z
      · rw [z]; exact Nat.le_add_right _ _
      · rw [z]; exact Nat.le_refl _
    exact I1.fpOk hle (I1.hok.fresh hle)
  rcases q with ⟨⟨xs, hq⟩, q⟩ | ⟨⟨xs, hq⟩, q⟩
  · obtain ⟨its, rv, p', hz⟩ := I1.list hq
    exact call_enumerate_list p'.isList fun h' he hit hsz hk => fin hk he (turn_enum a (s1.heap.objs.size + 1) s1.heap.objs.size) ⟨⟨.none, he⟩, hit, Nat.succ_ne_self _⟩ q
  · obtain ⟨its, rv, p', hz⟩ := I1.tuple hq
    have la : a < s1.heap.objs.size := by obtain ⟨o, ho, _⟩ := p'; exact Heap.lt_size ho
    exact EvN.call_enum1 (begins_tuple a its.toArray) (show s1.heap.IsTuple a its.toArray from p') fun h' he ho hsz hk => fin hk he (turn_enumT a (s1.heap.objs.size + 1) s1.heap.objs.size) ⟨⟨.none, he⟩, ⟨_, ho, rfl, rfl⟩, Nat.succ_ne_self _, Nat.ne_of_lt la, Nat.ne_of_lt (Nat.lt_succ_of_lt la)⟩ q
section
variable {k : Kx} {P : Pg} {n : Nat} {c : Ck} {W : XK} {X : Cx} {Y : Cf} {w : Bool}
theorem walk_eT {F H : Hp} {s : St} {a : Addr} {xs : List V} {ds : List D} (h : SqT k.K F a xs) (r : Reps k F xs ds) : WalkD k (Later k w F H s) (ds.mapIdx fun i d => .tup [.int (i : Nat), d]) (IteT k.K a) := by
  have st : ∀ F' H' s', Later k w F H s F' H' s' → SqT k.K H' a xs := fun F' H' s' g => sameT g.fh.2.1 (sameT g.fh.1 h)
  have len := r.length
  refine ⟨fun i F' H' s' hi g => ?_, fun F' H' s' g => ⟨xs, st F' H' s' g, by simp; omega⟩, fun i d F' H' s' x H2 hd g y => ?_⟩
  · have hi' : i < xs.length := by simp at hi; omega
    exact ⟨xs, xs[i], st F' H' s' g, by simp [hi']⟩
  · obtain ⟨T, z, e1, e2, e3, e4⟩ := y
    rw [List.getElem?_mapIdx] at hd
    obtain ⟨d', e5, rfl⟩ := Option.map_eq_some_iff.mp hd
    obtain ⟨v, e6, r1⟩ := r.get e5
    have e7 := e4 xs (st F' H' s' g)
    rw [e6] at e7
    cases e7
    rw [e1, e3]
    exact pair_new g.fh.2.1 g.fh.2.2 e2 (.int _) (Rep.mono g.fh.1 r1)
/-- what is read of a source -/
theorem src_of {F H : Hp} {s : St} {v : V} {d : D} (fh : Same F H) (r : RepB k F H s v d) (f : ∀ es, d = .lst es → w = false → Rep k F v d) :
    (∀ es, d = .lst es → ∃ a xs, v = .ref a ∧ SqL k.K H a xs ∧ Reps k F xs es ∧ (F a = some (.lst xs) ∨ (w = true ∧ H a = some (.lst xs) ∧ ¬ Mx k s a))) ∧ ∀ es, d = .tup es → ∃ a xs, v = .ref a ∧ SqT k.K F a xs ∧ Reps k F xs es := by
  constructor
  · rintro es rfl
    have sld : Rep k F v (.lst es) → ∃ a xs, v = .ref a ∧ SqL k.K H a xs ∧ Reps k F xs es ∧ (F a = some (.lst xs) ∨ (w = true ∧ H a = some (.lst xs) ∧ ¬ Mx k s a)) := fun r => by
      cases r with
      | lst h r1 => exact ⟨_, _, rfl, SqL.of (fh _ _ h), r1, .inl h⟩
    rcases r with r | ⟨p, u, e1, e3, ⟨xs, rfl, e4⟩, e5, e6⟩
    · exact sld r
    · cases hw : w with
      | true => exact ⟨p, xs, e1, SqL.of e3, e4, .inr ⟨rfl, e3, e6⟩⟩
      | false =>
        have := sld (f es rfl hw)
        rw [hw] at this
        exact this
  · rintro es rfl
    exact repB_tup r
theorem q_ienum (g : Good k P n c W X) {a : C} {ea : Expr} {elts : List Expr} {kk : Nat} {tpos p pos : Pos} (hg : glB c "enumerate" = true) (pa : PE X ea (tE k W Y a)) (pb : PE X ea (tB k W Y a)) (hp : plainB ea = true) : PI X (.Tuple elts kk tpos) (.Call (.Name "enumerate" p) [ea] [] pos) (tI k W Y w (.enum a)) := by
  refine PIw (pi_enumA (g.glob hg) (g.noblt (by decide)) (pa_cons (tW_of (w := w) pa pb) pa_nil (star1 hp [] _)) (star1 hp [] _)) fun σ H R ⟨B, F, ρ, s, ok, q⟩ => ⟨B, F, ρ, s, ok, ?_⟩
  refine (Post.bnd (show Post k W F H s (bnd (borIf w a ρ s (evE Y a ρ s)) _) _ from q)).mono fun x s1 F1 H1 E1 q v r f => ?_
  obtain ⟨ds, e, q⟩ := Post.lift (Post.bnd q)
  have q : Post k W F1 H1 s1 (Ev.ok (ds.mapIdx fun i d => Ev.D.tup [Ev.D.int (i : Nat), d]) s1) _ := q F1 H1 (Ext.refl E1.fh E1.hand)
  have q2 : ∀ J, WalkD k (Later k w F1 H1 s1) (ds.mapIdx fun i d => Ev.D.tup [Ev.D.int (i : Nat), d]) J → R J H1 := q F1 H1 (Ext.refl E1.fh E1.hand)
  obtain ⟨h1, h2⟩ := src_of E1.fh r f
  rw [g.hK]
  cases x <;> first | (cases e; done) | skip
  case lst es =>
    cases e
    obtain ⟨p, xs, rfl, h3, h4, h5⟩ := h1 _ rfl
    exact ⟨p, rfl, .inl ⟨⟨xs, h3⟩, q2 _ (walk_e h5 h4)⟩⟩
  case tup es =>
    cases e
    obtain ⟨p, xs, rfl, h3, h4⟩ := h2 _ rfl
    exact ⟨p, rfl, .inr ⟨⟨xs, sameT E1.fh h3⟩, q2 _ (walk_eT h3 h4)⟩⟩
theorem q_izip (g : Good k P n c W X) {a b : C} {ea eb : Expr} {elts : List Expr} {kk : Nat} {tpos p pos : Pos} (hg : glB c "zip" = true) (pa : PE X ea (tE k W Y a)) (pab : PE X ea (tB k W Y a)) (pb : PE X eb (tE k W Y b)) (pbb : PE X eb (tB k W Y b)) (hp : plainB ea = true) (hp2 : plainB eb = true) :
    PI X (.Tuple elts kk tpos) (.Call (.Name "zip" p) [ea, eb] [] pos) (tI k W Y w (.zip a b)) := by
  refine PIw (RZ.pi_zipA (g.glob hg) (g.noblt (by decide)) (pa_cons (tW_of (w := w) pa pab) (pa_cons (tW_of (w := w) pb pbb) pa_nil (star1 hp2 [] _)) (star1 hp _ _)) (star1 hp _ _) (by rw [star1 hp2]; rfl)) fun σ H R ⟨B, F, ρ, s, ok, q⟩ => ⟨B, F, ρ, s, ok, ?_⟩
  refine (Post.bnd (show Post k W F H s (bnd (borIf w a ρ s (evE Y a ρ s)) _) _ from q)).mono fun x s1 F1 H1 E1 q v r f => ⟨B, F1, ρ, s1, ok.next E1, ?_⟩
  refine (Post.bnd q).mono fun y s2 F2 H2 E2 q v2 r2 f2 => ?_
  have r' := r.ext E2
  obtain ⟨h1, h2⟩ := src_of E2.fh r' fun es e hw => Rep.mono E2.ff (f es e hw)
  obtain ⟨h3, h4⟩ := src_of E2.fh r2 f2
  rw [g.hK]
  cases x <;> cases y <;> first | exact q.elim | skip
  case lst.lst es es2 =>
    obtain ⟨p, xs, rfl, i1, i2, i3⟩ := h1 _ rfl
    obtain ⟨p2, ys, rfl, j1, j2, j3⟩ := h3 _ rfl
    exact ⟨p, p2, xs, ys, rfl, .inl ⟨i1, j1, Post.ok (show Post k W F2 H2 s2 (Ev.ok _ s2) _ from q) (Ext.refl E2.fh E2.hand) _ (walk_z i3 i2 j3 j2)⟩⟩
  case tup.tup es es2 =>
    obtain ⟨p, xs, rfl, i1, i2⟩ := h2 _ rfl
    obtain ⟨p2, ys, rfl, j1, j2⟩ := h4 _ rfl
    exact ⟨p, p2, xs, ys, rfl, .inr ⟨sameT E2.fh i1, sameT E2.fh j1, Post.ok (show Post k W F2 H2 s2 (Ev.ok _ s2) _ from q) (Ext.refl E2.fh E2.hand) _ (walk_zt i1 i2 j1 j2)⟩⟩
end
end Ev
set_option maxHeartbeats 4000000
/-! EvSet: len(set(xs)), xs.index(x). -/
namespace Ev
open PySem PySem.Spec PyProof.Rows L2
theorem distL_mem (x : List Int) : ∀ l, x ∈ distL l ↔ x ∈ l
  | [] => Iff.rfl
  | a :: r => by
    unfold distL
    by_cases h : a ∈ r
    · rw [if_pos h, distL_mem x r, List.mem_cons]
      exact ⟨.inr, fun q => by rcases q with rfl | q; exact h; exact q⟩
    · rw [if_neg h, List.mem_cons, List.mem_cons, distL_mem x r]
theorem distL_nodup : ∀ l, (distL l).Nodup
  | [] => List.nodup_nil
  | a :: r => by
    unfold distL
    by_cases h : a ∈ r
    · rw [if_pos h]; exact distL_nodup r
    · rw [if_neg h]; exact List.nodup_cons.mpr ⟨fun q => h ((distL_mem a r).mp q), distL_nodup r⟩
section
variable {k : Kx} {P : Pg} {n : Nat} {c : Ck} {W : XK} {X : Cx} {Y : Cf}
theorem intsT_rep {F : Hp} {v : V} {d : D} {ns : List Int} (r : Rep k F v d) (e : intsT d = some ns) : ∃ a, v = .ref a ∧ SqT k.K F a (ns.map V.int) := by
  cases r <;> first | (cases e; done) | skip
  rename_i a xs ds h1 h2
  have := reps_ints h2 (show intsD ds = some ns from e)
  subst this
  exact ⟨a, rfl, h1⟩
theorem intsTs_rep {F : Hp} : ∀ {vs : List V} {ds : List D} {ks : List (List Int)}, Reps k F vs ds → intsTs ds = some ks → ∃ ps : List (Addr × List Int), vs = ps.map (fun p => V.ref p.1) ∧ ks = ps.map (·.2) ∧ ∀ p ∈ ps, SqT k.K F p.1 (p.2.map V.int)
  | _, _, _, .nil, e => by cases e; exact ⟨[], rfl, rfl, fun _ h => by cases h⟩
  | _, _, _, .cons (d := d) (ds := ds) r t, e => by
    simp only [intsTs] at e
    cases e1 : intsT d with
    | none => rw [e1] at e; cases e
    | some a => cases e2 : intsTs ds with
      | none => rw [e1, e2] at e; cases e
      | some b =>
        rw [e1, e2] at e
        cases e
        obtain ⟨ad, rfl, h1⟩ := intsT_rep r e1
        obtain ⟨ps, rfl, rfl, h2⟩ := intsTs_rep t e2
        exact ⟨(ad, a) :: ps, rfl, rfl, fun p hp => by rcases List.mem_cons.mp hp with rfl | hp; exact h1; exact h2 p hp⟩
theorem q_lenset (g : Good k P n c W X) (hh : c.hot = false) {a : C} {ea : Expr} {p p2 q pos : Pos} (hg : glB c "len" = true) (hg2 : glB c "set" = true) (pa : PE X ea (tB k W Y a)) (hp : plainB ea = true) : PE X (.Call (.Name "len" p) [.Call (.Name "set" p2) [ea] [] q] [] pos) (tN k W Y (.blt .lenset [a])) := by
  refine ⟨fun pins s0 σ H Q I h => ?_⟩
  obtain ⟨B, F, ρ, s, ok, h⟩ := h
  have h : Post k W F H s (bnd (bnd (bor a ρ s (evE Y a ρ s)) fun d s => bnd (Ev.ok [] s) fun ds s => Ev.ok (d :: ds) s) fun ds s => Ev.lift (bltD .lenset ds) s) fun d _ F' H' => ∀ v, RepF k H F' H' v d → Q v H' := h
  refine Call_ (ld_blt I (g.glob hg) (g.noblt (by decide)) PySem.boot_len ?_)
  refine PyProof.Rows.callWith_builtin1 (PyProof.Rows.args_cons ?_ rfl) rfl rfl
  refine Call_ (ld_blt I (g.glob hg2) (g.noblt (by decide)) PyProof.Rows.boot_set ?_)
  refine PyProof.Rows.callWith_type1 (PyProof.Rows.args_cons (thn (pa.run pins s0 σ H (fun v H1 => ∃ (l : Addr) (ps : List (Addr × List Int)), v = .ref l ∧ SqL X.K H1 l (ps.map fun p => V.ref p.1) ∧ (∀ p ∈ ps, SqT X.K H1 p.1 (p.2.map V.int)) ∧ ps.length < 64 ∧ Q (.int (distL (ps.map (·.2))).length) H1) I
    ⟨B, F, ρ, s, ok, ?_⟩) fun v s1 ⟨x, H1, I1, r1, q1⟩ => PyProof.Rows.args_nil ?_) (star1 hp [] _)) (star1 hp [] _) rfl
  · refine (Post.bnd (Post.bnd h)).mono fun d s1 F1 H1 E1 q v r => ?_
    have q : Post k W F1 H1 s1 (Ev.lift (bltD .lenset [d]) s1) fun d _ F' H' => ∀ v, RepF k H F' H' v d → Q v H' := Post.ok (show Post k W F1 H1 s1 (Ev.ok [d] s1) _ from q) (Ext.refl E1.fh E1.hand)
    obtain ⟨z, e, q⟩ := Post.lift q
    obtain ⟨xs, rfl⟩ : ∃ xs, d = .lst xs := by cases d <;> first | (cases e; done) | exact ⟨_, rfl⟩
    all_goals
      have e : (if xs.length < 64 then (intsTs xs).map fun ks => Ev.D.int (distL ks).length else none) = some z := e
      split at e
      · rename_i hl
        obtain ⟨ks, e1, rfl⟩ := Option.map_eq_some_iff.mp e
        obtain ⟨l, us, rfl, h1, r1⟩ := r.lst E1.fh
        obtain ⟨ps, rfl, rfl, h2⟩ := intsTs_rep r1 e1
        refine ⟨l, ps, rfl, SqL.of h1, fun p hp => by rw [g.hK]; exact sameT E1.fh (h2 p hp), ?_, q F1 H1 (Ext.refl E1.fh E1.hand) _ (RepF.no rfl (.int _))⟩
        have := r1.length
        simp at this
        omega
      · cases e
  · obtain ⟨l, ps, rfl, hl, hk, hf, q1⟩ := q1
    cases (show _ = _ from r1)
    obtain ⟨its, rv, pl, hz⟩ := I1.list hl
    have hu := g.u65
    refine call_set_tups (P := X.prog) (w := X.w) ps (I1.ok.hd (g.calm hh)) pl.isList (by simpa using refs_of_vals rv) (fun p hp => I1.isT (hk p hp)) hf (by omega) fun h' tk L es ep t R gg kk => ?_
    refine PyProof.Rows.args_nil ?_
    obtain ⟨o, ho, hex, hd⟩ := R.ob
    have hsz := SetTR.size (s := { s1 with heap := h', toks := tk }) R
    have hfit := SetTR.fits (s := { s1 with heap := h', toks := tk }) R
    have few := R.few
    have I2 : Inv X pins σ H1 { s1 with heap := h', toks := tk } := I1.kept fun b o e => kk b o e
    have hlen : es.size = (distL (ps.map (·.2))).length := by
      rw [hsz, ← List.length_map (f := (·.2)) (as := L)]
      refine (List.Perm.length_eq ((List.perm_ext_iff_of_nodup R.nd (distL_nodup _)).mpr fun x => ?_))
      rw [distL_mem]
      constructor
      · intro hx
        obtain ⟨p, hp, rfl⟩ := List.mem_map.mp hx
        exact List.mem_map_of_mem (List.mem_of_mem_take (gg.sub p hp))
      · intro hx
        obtain ⟨p, hp, rfl⟩ := List.mem_map.mp hx
        exact gg.all p (by rw [List.take_of_length_le (by simp [← rv.length])]; exact hp)
    exact call_len_set ho hex hd hfit (by omega) ⟨.int (es.size : Nat), H1, I2.tok _, ⟨_, rfl⟩, by rw [hlen]; exact q1⟩
theorem firstIx_py {x : D} : ∀ {ys : List D} {j : Nat}, D.plain x 64 = true → D.plains ys 63 = true → firstIx x ys = some j → ∃ z, (pys ys)[j]? = some z ∧ PyData.eqv z (py x) = true ∧ ∀ (m : Nat) (z' : PyData), m < j → (pys ys)[m]? = some z' → PyData.eqv z' (py x) = false
  | [], _, _, _, h => by cases h
  | y :: ys, j, hx, hy, h => by
    simp only [firstIx] at h
    have hy' : D.plain y 63 = true ∧ D.plains ys 63 = true := by simpa only [D.plains, Bool.and_eq_true] using hy
    cases e : eqD y x with
    | none => rw [e] at h; cases h
    | some b =>
      rw [e] at h
      obtain ⟨_, _, e3⟩ := eqD_plain e
      cases b with
      | true =>
        cases h
        exact ⟨py y, by simp [pys], e3, fun m z' hm => absurd hm (Nat.not_lt_zero m)⟩
      | false =>
        obtain ⟨i, e4, rfl⟩ := Option.map_eq_some_iff.mp h
        obtain ⟨z, f1, f2, f3⟩ := firstIx_py hx hy'.2 e4
        refine ⟨z, by simpa [pys] using f1, f2, fun m z' hm hz => ?_⟩
        cases m with
        | zero =>
          simp only [pys, List.getElem?_cons_zero, Option.some.injEq] at hz
          rw [← hz]
          exact e3
        | succ m => exact f3 m z' (by omega) (by simpa [pys] using hz)
theorem ty_list {F H : Hp} {s : St} {v : V} {ds : List D} (fh : Same F H) (r : RepB k F H s v (.lst ds)) (K : PySem.W.Frag) : tyV K "list" v H := by
  obtain ⟨p, xs, rfl, h1, r1⟩ := r.lst fh
  exact .inl ⟨rfl, xs, SqL.of h1⟩
theorem q_index (g : Good k P n c W X) {a b : C} {ea eb : Expr} {apos cpos : Pos} (pa : PE X ea (tB k W Y a)) (pb : PE X eb (tB k W Y b)) (hp : plainB ea = true) (hp2 : plainB eb = true) (hline : (apos.endLine == cpos.line) = true) : PE X (.Call (.Attribute ea "index" apos) [eb] [] cpos) (tN k W Y (.index a b)) := by
  refine PEw (pe_bm PySem.F.plainAttrs_list PySem.F.slot_list_index PySem.F.type_list_index (mt_indexD (g.u65)) pa (pa_cons pb pa_nil (star1 hp2 [] _)) (base_plain hp _ _ _) (by rw [star1 hp2]; rfl) hline (star1 hp2 [] _) rfl) fun σ H Q ⟨B, F, ρ, s, ok, q⟩ => ⟨B, F, ρ, s, ok, ?_⟩
  refine (Post.bnd (show Post k W F H s (bnd (bor a ρ s (evE Y a ρ s)) _) _ from q)).mono fun x s1 F1 H1 E1 q v r => ?_
  cases x <;> first | exact q.elim | skip
  rename_i xs
  refine ⟨ty_list E1.fh r _, B, F1, ρ, s1, ok.next E1, ?_⟩
  refine (Post.bnd (show Post k W F1 H1 s1 (bnd (bor b ρ s1 (evE Y b ρ s1)) _) _ from q)).mono fun y s2 F2 H2 E2 q w r2 => ?_
  obtain ⟨z, e, q⟩ := Post.lift q
  obtain ⟨g1, e⟩ := ifsome (c := D.plain y 64 && D.plains xs 63) (show (if (D.plain y 64 && D.plains xs 63) = true then (firstIx y xs).map fun j => Ev.D.int (j : Nat) else none) = some z from e)
  obtain ⟨j, e1, rfl⟩ := Option.map_eq_some_iff.mp e
  obtain ⟨g2, g3⟩ := Bool.and_eq_true_iff.mp g1
  have p2 : D.plain (.lst xs) 64 = true := g3
  obtain ⟨zz, f1, f2, f3⟩ := firstIx_py g2 g3 e1
  have r' := r.ext E2
  have d1 := r'.dp E2.fh p2
  obtain ⟨l, us, rfl, h1, r1⟩ := r'.lst E2.fh
  rw [← g.hK] at d1
  have d2 := r2.dp E2.fh g2
  rw [← g.hK] at d2
  exact ⟨l, w, py y, pys xs, j, zz, rfl, rfl, by simpa only [py] using d1, d2, by have := plain_shaped p2; simpa only [py] using this, plain_shaped g2, f1, f2, f3, q F2 H2 (Ext.refl E2.fh E2.hand) _ (RepF.no rfl (.int _))⟩
def eqkB (b : Bool) : Value → Bool
  | .bool c => c == b
  | _ => false
theorem vals_bl {b : Bool} : ∀ {bs : List Bool} {us : List Value}, L2.Vals (bs.map V.bl) us → (∀ y ∈ us, ∃ c, y = .bool c) ∧ us.countP (eqkB b) = bs.count b
  | [], _, .nil => ⟨fun _ h => (by cases h), rfl⟩
  | c :: bs, u :: us, .cons r t => by
    obtain ⟨h1, h2⟩ := vals_bl (b := b) t
    obtain rfl : u = .bool c := r
    refine ⟨fun y hy => ?_, ?_⟩
    · rcases List.mem_cons.mp hy with rfl | hy
      · exact ⟨c, rfl⟩
      · exact h1 y hy
    · rw [List.countP_cons, List.count_cons, h2]
      rfl
def rCntB (K : PySem.W.Frag) : V → List V → Hp → VK → Prop := fun x xs H Q => ∃ (p : Addr) (bs : List Bool) (b : Bool), x = .ref p ∧ xs = [.bl b] ∧ SqL K H p (bs.map V.bl) ∧ Q (.int (bs.count b : Nat)) H
theorem mt_countB : MtR X "list.count" (rCntB X.K) := by
  intro pins s σ H x xs v us Q I rx rxs h
  obtain ⟨p, bs, b, rfl, rfl, hs, q⟩ := h
  cases rx
  obtain ⟨u, rfl, ru⟩ := rxs.one
  obtain rfl : u = .bool b := ru
  obtain ⟨its, rv, ⟨⟨cls, dd, data, sl⟩, n, ho, hc, hdn, hd⟩, hlen⟩ := I.list hs
  simp only at hc hd
  subst hc hd
  obtain ⟨v1, v2⟩ := vals_bl (b := b) rv
  refine call_meets PySem.F.slot_list_count ⟨_, ho, rfl⟩ PySem.F.entry_list_count (PySem.F.args_list_count_2 _ _)
    (SeqAt.list_countAt p its.toArray n dd sl (.bool b) (eqkB b)) ⟨ho, fun y hy => ?_, ?_⟩
  · obtain ⟨c, rfl⟩ := v1 y (by simpa using hy)
    exact SeqAt.EqAt.bool_bool c b
  · refine ⟨.int (bs.count b : Nat), H, I.tok _, ⟨s.toks, ?_⟩, q⟩
    show Value.int ((its.toArray.toList.countP (eqkB b) : Nat) : Int) s.toks = Value.int ((bs.count b : Nat) : Int) s.toks
    rw [show its.toArray.toList = its by simp, v2]
theorem reps_bls {F : Hp} : ∀ {vs : List V} {ds : List D} {bs : List Bool}, Reps k F vs ds → bools ds = some bs → vs = bs.map V.bl
  | _, _, _, .nil, e => by cases e; rfl
  | _, _, _, .cons (d := d) (ds := ds) r t, e => by
    cases d <;> first | (cases e; done) | skip
    case bl b =>
      obtain ⟨cs, h1, rfl⟩ := Option.map_eq_some_iff.mp (show (bools ds).map (b :: ·) = some _ from e)
      cases r
      rw [reps_bls t h1]
      rfl
theorem q_count (g : Good k P n c W X) {a : C} {bb : Bool} {ea eb : Expr} {apos cpos : Pos} (pa : PE X ea (tB k W Y a)) (pb : PE X eb (tB k W Y (.bl bb))) (hp : plainB ea = true) (hp2 : plainB eb = true) (hline : (apos.endLine == cpos.line) = true) : PE X (.Call (.Attribute ea "count" apos) [eb] [] cpos) (tN k W Y (.blt .count [a, .bl bb])) := by
  refine PEw (pe_bm PySem.F.plainAttrs_list PySem.F.slot_list_count PySem.F.type_list_count mt_countB pa (pa_cons pb pa_nil (star1 hp2 [] _)) (base_plain hp _ _ _) (by rw [star1 hp2]; rfl) hline (star1 hp2 [] _) rfl) fun σ H Q ⟨B, F, ρ, s, ok, q⟩ => ⟨B, F, ρ, s, ok, ?_⟩
  have q : Post k W F H s (bnd (bnd (bor a ρ s (evE Y a ρ s)) fun d s => Ev.ok [d, .bl bb] s) fun ds s => Ev.lift (bltD .count ds) s) fun d _ F' H' => ∀ v, RepF k H F' H' v d → Q v H' := q
  refine (Post.bnd (Post.bnd q)).mono fun x s1 F1 H1 E1 q v r => ?_
  have q : Post k W F1 H1 s1 (Ev.ok [x, .bl bb] s1) (fun ds s2 F2 H2 => Post k W F2 H2 s2 (Ev.lift (bltD .count ds) s2) fun d _ F' H' => ∀ v, RepF k H F' H' v d → Q v H') := q
  have q := Post.ok q (Ext.refl E1.fh E1.hand)
  obtain ⟨z, e, q⟩ := Post.lift q
  obtain ⟨xs, rfl⟩ : ∃ xs, x = .lst xs := by cases x <;> first | (cases e; done) | exact ⟨_, rfl⟩
  obtain ⟨bs, e1, rfl⟩ := Option.map_eq_some_iff.mp (show (bools xs).map (fun bs => Ev.D.int (bs.count bb : Nat)) = some z from e)
  refine ⟨ty_list E1.fh r _, B, F1, ρ, s1, ok.next E1, ?_⟩
  intro F2 H2 E2 w r2
  have r' := r.ext E2
  obtain ⟨l, us, rfl, h1, r1⟩ := r'.lst E2.fh
  have := reps_bls r1 e1
  subst this
  have r2 : RepB k F2 H2 s1 w (.bl bb) := r2
  rcases r2 with r2 | ⟨_, _, _, _, o, _⟩
  · cases r2
    exact (show rCntB X.K (V.ref l) [V.bl bb] H2 Q from ⟨l, bs, bb, rfl, rfl, SqL.of h1, q F2 H2 E2 _ (RepF.no rfl (.int _))⟩)
  · cases o.own
theorem q_new (g : Good k P n c W X) (hh : c.hot = false) {x : Str} {ts : List C} {e : Expr} {es : List Expr} {p pos : Pos} (hx : P.clB x = true) (hn : (clsNames.lookup x).isNone = true) (hg : glB c x = true) (ho : okN x = true) (pa : PA X (e :: es) (tA k W (cfOf P n) ts)) (hp : (e :: es).all plainB = true) : PE X (.Call (.Name x p) (e :: es) [] pos) (tE k W (cfOf P n) (.new x ts)) := by
  have hC : ∃ C, k.cls x = some C := by
    rcases g.hcl x hx with z | z
    · exact absurd (by simpa using hn) z
    · exact z
  obtain ⟨C, hC⟩ := hC
  obtain ⟨f, fd, ps, l, M, F0, hb, hl, hs⟩ := g.news x C hC
  rw [List.all_cons, Bool.and_eq_true] at hp
  refine PEw (pe_make M F0 ((g.room hh).mono (Nat.le_trans hl g.hnl)) (g.glob hg) (g.clsG x C hC) hb .nil (passes_call g.tk (E := W) fun _ _ _ _ h => h) pa (okN_d ho).1 (star1 hp.1 es _) (stars hp.2 pos _)) fun σ H Q ⟨B, F, ρ, s, ok, q⟩ => ⟨B, F, ρ, s, ok, ?_⟩
  refine (Post.bnd (show Post k W F H s (bnd (evEs (cfOf P n) ts ρ s) _) _ from q)).mono fun ds s1 F1 H1 E1 q vs r a dx na nd ne => ?_
  obtain ⟨d, e, q⟩ := Post.lift q
  have e : P.nw x ds = some d := e
  obtain ⟨hlen, fs, rfl⟩ := hs ds d e
  have nm : ¬ Mx k s1 a := fun m => (E1.hand.at m).2 na
  have fa : F1 a = none := Ext.fn E1.fh na
  have mk : ∀ o : HO, Ext k F1 H1 s1 F1 (upd (upd H1 dx (.own a)) a o) s1 := fun o => (Ext.new E1.fh E1.hand nd).trans (Ext.new (Ext.new E1.fh E1.hand nd).fh (Ext.new E1.fh E1.hand nd).hand (by rw [upd_ne (Ne.symm ne)]; exact na))
  refine ⟨a, dx, vs ++ [], F1, s1, ds, fs, rfl, ?_, (mk _).fh, (mk _).hand, upd_same, fa, by rw [upd_ne ne]; exact upd_same, nm, by rw [List.append_nil]; exact r, e, fun F' H' ws E' r' hl' => ⟨rfl, ?_⟩⟩
  · rw [List.append_nil, r.length]
    exact hlen
  · rw [upd_upd] at E'
    have E2 := (mk _).trans E'
    have h1 : H' a = some (.ins C dx ((P.fl x).zip ws)) := E'.hh a _ upd_same nm
    have f1 : F' a = none := E'.nf a (by rw [nt_some upd_same (fun ps w => by cases w)]; simp) fa
    have E3 := E2.lock (nt_none na) h1 (fun m => nm ((Mx.iff E2.st).mp m)) f1
    refine q _ H' E3 _ (.obj hC upd_same ?_ (Reps.mono (fun b u z => by rw [upd_ne (ne_of_none z f1)]; exact z) ?_))
    · rw [g.fl]; exact List.map_fst_zip (by omega)
    · rw [List.map_snd_zip (by omega)]; exact r'
/-! ### a lambda handed to the word's def -/
def Ck.lam (c : Ck) (scope : Scope) : Ck := ⟨c.N, scope, fun _ => false, false, false, [], ""⟩
theorem Good.lam (g : Good k P n c W X) {m : Nat} (hm : m ≤ n) (hn : P.nwL ≤ m) {A : Around} {outer : List PySem.Env} {s : Shared} {H : Hp} {E : XK} {scope : Scope} {f c' : Addr} (hr : Room m (A.deeper (LamX.lamEnv X scope s.heap.objs.size f c'))) : Good k P m (c.lam scope) E (LamX.lamCx X A outer s H E scope f c') where
  hK := g.hK
  hw := g.hw
  hN := g.hN
  nd := g.nd
  sc := rfl
  fn := rfl
  calm := fun _ => rfl
  exI := fun _ _ _ _ _ _ _ _ h => by cases h
  po := passes_of rfl
  room := fun _ => hr
  u65 := Room.u65 hr
  tk := takes_of rfl rfl rfl rfl
  fl := g.fl
  blt := g.blt
  gl := g.gl
  calls := fun m' h => g.calls m' (Nat.le_trans h hm)
  objs := g.objs
  objT := g.objT
  ownN := g.ownN
  clsG := g.clsG
  news := g.news
  hnl := hn
  wds := fun h => by cases h
  hfn := g.hfn
  hcl := g.hcl
  hex := g.hex
  isi := g.isi
theorem Ext.tabs {F H H1 : Hp} {s : St} (fh : Same F H) (hd : HandOk k F H s) (e : LamX.ExtN H H1) (t : LamX.Tabs k.tb H1) : Ext k F H s F H1 s where
  ff := Same.refl _
  fh := fun b u z => e b u (fh b u z) fun ps w => hd.1.2 b ps (by rw [z, w])
  hx := fun p o z n _ => e p o z n
  nn := fun p z => by
    cases q : nt H p with
    | none => exact absurd q z
    | some o =>
      have h1 : H p = some o ∧ NT o := by
        unfold nt at q
        split at q
        · cases q
        · rename_i hne
          exact ⟨q, fun ps w => hne ps (by rw [q, w])⟩
      rw [nt_some (e p o h1.1 h1.2) h1.2]
      simp
  nf := fun _ _ z => z
  st := rfl
  hand := by
    obtain ⟨⟨h4, h5⟩, h0⟩ := hd
    refine ⟨⟨fun q hq => ⟨(h4 q hq).1, t q hq⟩, h5⟩, fun x hx => ?_⟩
    obtain ⟨h1, hc, h2, h3⟩ := h0 x hx
    exact ⟨h1, hc, e _ _ h2 (fun ps w => by cases w), h3⟩
theorem Ext.keep {F H H1 : Hp} {s : St} (fh : Same F H) (hd : HandOk k F H s) (e : ∀ b o, H b = some o → H1 b = some o) : Ext k F H s F H1 s where
  ff := Same.refl _
  fh := fun b u z => e b u (fh b u z)
  hx := fun p o z _ _ => e p o z
  nn := fun p z => by
    cases q : nt H p with
    | none => exact absurd q z
    | some o =>
      have h1 : H p = some o ∧ NT o := by
        unfold nt at q
        split at q
        · cases q
        · rename_i hne
          exact ⟨q, fun ps w => hne ps (by rw [q, w])⟩
      rw [nt_some (e p o h1.1) h1.2]
      simp
  nf := fun _ _ z => z
  st := rfl
  hand := by
    obtain ⟨⟨h4, h5⟩, h0⟩ := hd
    refine ⟨⟨fun q hq => ⟨(h4 q hq).1, (h4 q hq).2.ext e⟩, h5⟩, fun x hx => ?_⟩
    obtain ⟨h1, hc, h2, h3⟩ := h0 x hx
    exact ⟨h1, hc, e _ _ h2, h3⟩
def noArgs (a : Arguments) : Bool := match a with
  | ⟨[], [], none, [], [], none, []⟩ => true
  | _ => false
theorem q_word (g : Good k P n c W X) (hh : c.hot = false) (hwo : c.wo = true) {t : C} {params : Arguments} {body : Expr} {scope : Scope} {p lpos pos : Pos} (hg : glB c "_law_word" = true) (ha : noArgs params = true) (L : LamX.lamSB c.sc scope = true)
    (hb : ∀ m, m + 2 = n → P.nwL ≤ m → ∀ E X', Good k P m (c.lam scope) E X' → PE X' body (tE k E (cfOf P m) t)) : PE X (.Call (.Name "_law_word" p) [.Lambda params body scope lpos] [] pos) (tE k W (cfOf P n) (.word t)) := by
  by_cases hn : ∃ m, m + 2 = n ∧ P.nwL ≤ m
  · obtain ⟨m, rfl, hm⟩ := hn
    obtain ⟨gg, cc, Pt, pg, bg, sg, dV, kV, doc, pm, cdv, ct, oc, an, od, osl, Ng, a, w1, w2, w3, w4, w5, w6, w7, w8, w9, w10, w11, w12, w13, w14, w15⟩ := g.wds hwo
    obtain ⟨e1, e2⟩ : defaultsOf params X.env = ([], []) ∧ ∀ (q : Str) (cl : List (Str × Addr)) (pm cv ctv : Value), bindArgs (PySem.W.kla_fn "<lambda>" q params body scope cl pm cv ctv) ⟨[], []⟩ = pure [] := by
      unfold noArgs at ha
      split at ha
      · exact ⟨rfl, fun _ _ _ _ _ => rfl⟩
      · cases ha
    refine PEw (LamX.pe_lamcall (T := k.tb) (TT := TTw k P) (t := fun E => tE k E (cfOf P m) t) (g.glob hg) w1 w2 w3 w4 w5 w6 w7 w8 w9 w10 w11 w12 w13 (g.room hh) (LamX.lamS_by (by rw [g.sc]; exact L)) e1 e2 (fun A outer s H E f c' hr => hb m rfl hm E _ (g.lam (by omega) hm hr)) (by decide) w14 w15) fun σ H Q ⟨B, F, ρ, s, ok, q⟩ => ?_
    rw [wd_eq] at q
    cases s with
    | none => simp at q; exact q.elim
    | some h0 =>
      rw [if_pos ⟨hm, rfl⟩] at q
      refine ⟨fun r hr => (ok.ext.hand.1.1 r hr).2, fun H1 eN T1 => ?_⟩
      have E0 : Ext k F H (some h0) F H1 (some h0) := Ext.tabs ok.ext.fh ok.ext.hand eN T1
      refine ⟨B, F, ρ, some h0, ok.next E0, ?_⟩
      revert q
      generalize evE (cfOf P m) t ρ (some h0) = o
      intro q
      match o, q with
      | some (.ok d, s'), q =>
        intro F' H' E' v r
        have q : Post k W F H (some h0) (Ev.lift ((P.wrd none).map .str) s') fun d _ F' H' => ∀ v, Rep k F' v d → Q v H' := q
        cases hw : P.wrd none with
        | none => rw [hw] at q; exact q.elim
        | some wd =>
          rw [hw] at q
          exact ⟨wd, rfl, q F' H' (E0.trans E') _ (.str wd)⟩
      | some (.ex ⟨x, none⟩, s'), q =>
        rintro F' H' cls dd E' ⟨⟨C, hC, rfl⟩, hdd⟩
        have q : Post k W F H (some h0) (Ev.lift ((P.wrd (some x)).map .str) s') fun d _ F' H' => ∀ v, Rep k F' v d → Q v H' := q
        cases hw : P.wrd (some x) with
        | none => rw [hw] at q; exact q.elim
        | some wd =>
          rw [hw] at q
          exact ⟨x, C, wd, hC, rfl, hdd, hw, fun r hr => (E'.hand.1.1 r hr).2, fun H'' e t => q F' H'' ((E0.trans E').trans (Ext.tabs E'.fh E'.hand e t)) _ (.str wd)⟩
  · refine ⟨fun pins s0 σ H Q I ⟨B, F, ρ, s, ok, q⟩ => ?_⟩
    exfalso
    match n, hn with
    | 0, hn => rw [wd_lo P 0 (by decide)] at q; exact q
    | 1, hn => rw [wd_lo P 1 (by decide)] at q; exact q
    | m + 2, hn =>
      rw [wd_eq, if_neg (fun z => hn ⟨m, rfl, z.1⟩)] at q
      exact q
end
end Ev
set_option maxHeartbeats 4000000
/-! EvChk: is a def's text that core text? -/
namespace Ev
open PySem PySem.Spec PyProof.Rows L2
def isN : C → Bool
  | .lst _ => true | .bin _ _ _ => true | .slice _ _ _ => true | .blt _ _ => true | .dct0 => true | .index _ _ => true | .comp _ _ _ _ _ => true | .dcomp _ _ _ _ _ _ => true
  | _ => false
/-- no test that the model reads by its parts -/
def testB (e : Expr) : Bool := match e with
  | .UnaryOp _ _ _ => false
  | .BoolOp _ _ _ => false
  | .IfExp _ _ _ _ => false
  | .Compare _ _ _ _ => false
  | _ => true
def ownP (c : Ck) (own : List Nat) : List (Str × Nat) := own.map fun i => (c.N.getD i "", i)
theorem ownP_snd (c : Ck) (own : List Nat) : (ownP c own).map (·.2) = own := by
  unfold ownP
  rw [List.map_map]
  exact List.map_id own
mutual
def chkG (c : Ck) : G → Expr → Bool
  | .one i, e => match e with
    | .Name x _ => decide (c.N[i]? = some x) && locB c x
    | _ => false
  | .tup gs, e => match e with
    | .Tuple es _ _ => chkGs c gs es && !c.hot
    | _ => false
def chkGs (c : Ck) : List G → List Expr → Bool
  | [], es => match es with
    | [] => true
    | _ => false
  | g :: gs, es => match es with
    | e :: es => chkG c g e && chkGs c gs es
    | _ => false
end
def clsE1 (ts : List Str) (e : Expr) : Bool := match e with
  | .Name u _ => match ts with
    | [t] => decide (t = u)
    | _ => false
  | .Tuple es _ _ => clsEs ts es
  | _ => false
def litB (ts : List C) : Bool := match ts with
  | [_, .bl _] => true
  | _ => false
mutual
def chkE (P : Pg) (c : Ck) : C → Expr → Bool
  | .var i, e => match e with
    | .Name x _ => decide (c.N[i]? = some x) && visB c x && okN x
    | _ => false
  | .int i, e => match e with
    | .Constant (.int j) _ _ => decide (i = j)
    | _ => false
  | .bl i, e => match e with
    | .Constant (.bool j) _ _ => decide (i = j)
    | _ => false
  | .non, e => match e with
    | .Constant .none _ _ => true
    | _ => false
  | .str x, e => match e with
    | .Constant (.str y) _ _ => decide (x = y)
    | _ => false
  | .glob x, e => match e with
    | .Name y _ => decide (x = y) && glB c x && okN x && (P.gl x).isSome
    | _ => false
  | .tup ts, e => match e with
    | .Tuple es _ _ => chkEs P c ts es
    | _ => false
  | .lst ts, e => match e with
    | .List es _ => chkEs P c ts es
    | _ => false
  | .dct0, e => match e with
    | .Dict [] [] _ => true
    | _ => false
  | .bin o a b, e => match e with
    | .BinOp ea op eb _ => decide (op = bopOf o) && chkE P c a ea && chkE P c b eb
    | _ => false
  | .neg a, e => match e with
    | .UnaryOp .USub ea _ => chkE P c a ea
    | _ => false
  | .cmp o a b, e => match e with
    | .Compare ea [op] [eb] _ => decide (op = copOf o) && !behindInMarks op eb && chkE P c a ea && chkE P c b eb
    | _ => false
  | .chain o p a b d, e => match e with
    | .Compare ea [op, op2] [eb, ed] _ => decide (op = copOf o) && decide (op2 = copOf p) && !lastMarks [op, op2] [eb, ed] && chkE P c a ea && chkE P c b eb && chkE P c d ed
    | _ => false
  | .andv ts, e => match e with
    | .BoolOp .And es _ => !es.isEmpty && chkEs P c ts es
    | _ => false
  | .orv ts, e => match e with
    | .BoolOp .Or es _ => !es.isEmpty && chkEs P c ts es
    | _ => false
  | .notv a, e => match e with
    | .UnaryOp .Not ea _ => chkE P c a ea
    | _ => false
  | .ite t a b, e => match e with
    | .IfExp et ea eb _ => chkT P c t et && chkE P c a ea && chkE P c b eb
    | _ => false
  | .sub a i, e => match e with
    | .Subscript ea ei _ => plainB ei && chkE P c a ea && chkE P c i ei
    | _ => false
  | .slice a lo hi, e => match e with
    | .Subscript ea (.Slice el eh none _) _ => chkE P c a ea && chkO P c lo el && chkO P c hi eh
    | _ => false
  | .rev _, _ => false
  | .call f ts, e => match e with
    | .Call (.Name g _) es [] _ => decide (f = g) && glB c f && okN f && P.fnB f && !es.isEmpty && es.all plainB && chkEs P c ts es && !c.hot
    | _ => false
  | .new x ts, e => match e with
    | .Call (.Name g _) es [] _ => decide (x = g) && glB c x && okN x && P.clB x && (clsNames.lookup x).isNone && !es.isEmpty && es.all plainB && chkEs P c ts es && !c.hot
    | _ => false
  | .word t, e => match e with
    | .Call (.Name w _) [.Lambda params body scope _] [] _ => c.wo && decide (w = "_law_word") && glB c "_law_word" && noArgs params && LamX.lamSB c.sc scope && chkE P (c.lam scope) t body && !c.hot
    | _ => false
  | .blt b ts, e => match b, e with
    | .lenset, .Call (.Name l _) [.Call (.Name s _) [ea] [] _] [] _ => decide (l = "len") && decide (s = "set") && glB c "len" && glB c "set" && plainB ea && chkEs P c ts [ea] && !c.hot
    | .count, .Call (.Attribute ea m apos) [eb] [] cpos => decide (m = "count") && (apos.endLine == cpos.line) && litB ts && chkEs P c ts [ea, eb]
    | b, .Call (.Name x _) es [] _ => match bltOf b with
      | some f => decide (x = f.1) && glB c x && !es.isEmpty && es.all plainB && chkEs P c ts es && !c.hot
      | none => false
    | _, _ => false
  | .exi i b, e => match e with
    | .Call (.Name f _) [.Name v _, .Name u _] [] _ => decide (f = "isinstance") && decide (c.N[i]? = some v) && visB c v && okN v && glB c "isinstance" && glB c u && okN u && decide (c.exs.lookup u = some b)
    | _ => false
  | .attr a f, e => match e with
    | .Attribute ea g _ => decide (f = g) && plainB ea && chkE P c a ea
    | _ => false
  | .isi a ts, e => match e with
    | .Call (.Name m _) [ea, eu] [] _ => decide (m = "isinstance") && glB c "isinstance" && plainB ea && chkE P c a ea && clsE1 ts eu && okCls c ts && ts.all P.clB && decide (ts.length ≤ 100)
    | _ => false
  | .index a b, e => match e with
    | .Call (.Attribute ea m apos) [eb] [] cpos => decide (m = "index") && (apos.endLine == cpos.line) && plainB ea && plainB eb && chkE P c a ea && chkE P c b eb
    | _ => false
  | .comp own g it t el, e => match e with
    | .ListComp elt [⟨tg, iter, ifs, asy⟩] scope _ => decide (asy = 0) && nsB iter && blkC c.N c.sc scope (ownP c own) && (gvars g).all (fun i => decide (i ∈ own)) && chkI P c it tg iter && chkG (c.blk scope) g tg && chkTo P (c.blk scope) t ifs && chkE P (c.blk scope) el elt && !c.hot
    | _ => false
  | .dcomp own g it t kx vx, e => match e with
    | .DictComp ke ve [⟨tg, iter, ifs, asy⟩] scope _ => decide (asy = 0) && nsB iter && blkC c.N c.sc scope (ownP c own) && (gvars g).all (fun i => decide (i ∈ own)) && chkI P c it tg iter && chkG (c.blk scope) g tg && chkTo P (c.blk scope) t ifs && chkE P (c.blk scope) kx ke && chkE P (c.blk scope) vx ve && !c.hot
    | _ => false
def chkEs (P : Pg) (c : Ck) : List C → List Expr → Bool
  | [], es => match es with
    | [] => true
    | _ => false
  | t :: ts, es => match es with
    | e :: es => plainB e && chkE P c t e && chkEs P c ts es
    | _ => false
def chkO (P : Pg) (c : Ck) : Option C → Option Expr → Bool
  | none, e => match e with
    | none => true
    | _ => false
  | some t, e => match e with
    | some e => chkE P c t e
    | _ => false
def chkTo (P : Pg) (c : Ck) : Option T → List Expr → Bool
  | none, es => match es with
    | [] => true
    | _ => false
  | some t, es => match es with
    | [e] => chkT P c t e
    | _ => false
def chkT (P : Pg) (c : Ck) : T → Expr → Bool
  | .e t, e => match e with
    | .Compare _ _ _ _ => chkE P c t e
    | e => testB e && chkE P c t e
  | .all ts, e => match e with
    | .BoolOp .And es _ => !es.isEmpty && chkTs P c ts es
    | _ => false
  | .any ts, e => match e with
    | .BoolOp .Or es _ => !es.isEmpty && chkTs P c ts es
    | _ => false
  | .not t, e => match e with
    | .UnaryOp .Not ea _ => chkT P c t ea
    | _ => false
def chkTs (P : Pg) (c : Ck) : List T → List Expr → Bool
  | [], es => match es with
    | [] => true
    | _ => false
  | t :: ts, es => match es with
    | e :: es => chkT P c t e && chkTs P c ts es
    | _ => false
def chkI (P : Pg) (c : Ck) : I → Expr → Expr → Bool
  | .seq a, _, e => chkE P c a e
  | .rng1 a, _, e => match e with
    | .Call (.Name r _) [ea] [] _ => decide (r = "range") && glB c "range" && plainB ea && chkE P c a ea
    | _ => false
  | .rng2 a b, _, e => match e with
    | .Call (.Name r _) [ea, eb] [] _ => decide (r = "range") && glB c "range" && plainB ea && plainB eb && chkE P c a ea && chkE P c b eb
    | _ => false
  | .enum a, tg, e => match tg, e with
    | .Tuple _ _ _, .Call (.Name r _) [ea] [] _ => decide (r = "enumerate") && glB c "enumerate" && plainB ea && chkE P c a ea
    | _, _ => false
  | .zip a b, tg, e => match tg, e with
    | .Tuple _ _ _, .Call (.Name r _) [ea, eb] [] _ => decide (r = "zip") && glB c "zip" && plainB ea && plainB eb && chkE P c a ea && chkE P c b eb
    | _, _ => false
  | .items _, _, _ => false
end
end Ev
set_option maxHeartbeats 16000000
/-! EvSnd: what is checked is sound. -/
namespace Ev
open PySem PySem.Spec PyProof.Rows L2
section
variable {k : Kx} {P : Pg}
theorem boolE {e : Expr} (h : testB e = true) (env : PySem.Env) (whole : Sem Value) : isTrue e env whole = (do let v ← whole; standAt e.pos; holding [v] (truthy v)) := by
  cases e <;> first | rfl | cases h
mutual
theorem sG : ∀ (gt : G) (n : Nat) (c : Ck) (W : XK) (X : Cx) (e : Expr), Good k P n c W X → chkG c gt e = true → PG X e (gD k.K gt)
  | .one i, n, c, W, X, e, g, h => by
    simp only [chkG] at h
    split at h
    · rw [Bool.and_eq_true] at h
      exact pg_name (by rw [g.hN]; exact g.nd) (by rw [g.hN]; exact of_decide_eq_true h.1) (g.loc h.2).1 (g.loc h.2).2
    · cases h
  | .tup gs, n, c, W, X, e, g, h => by
    simp only [chkG] at h
    split at h
    · rename_i es x p
      rw [Bool.and_eq_true, Bool.not_eq_true'] at h
      obtain ⟨h, hh⟩ := h
      obtain ⟨h1, h2, h3⟩ := sGs gs _ c W X es g h
      rw [← g.hK]
      rw [← g.hK] at h1
      exact pg_tup (g.calm hh) h1 h2 h3
    · cases h
theorem sGs : ∀ (gs : List G) (n : Nat) (c : Ck) (W : XK) (X : Cx) (es : List Expr), Good k P n c W X → chkGs c gs es = true → PGs X es (gDs k.K gs) ∧ (assignEach es X.env).length = gs.length ∧ (assignEach es X.env).findIdx? (·.1) = none
  | [], n, c, W, X, es, g, h => by
    simp only [chkGs] at h
    split at h
    · exact ⟨pgs_nil, rfl, rfl⟩
    · cases h
  | gt :: gs, n, c, W, X, es, g, h => by
    simp only [chkGs] at h
    split at h
    · rename_i e es
      rw [Bool.and_eq_true] at h
      obtain ⟨h1, h2, h3⟩ := sGs gs _ c W X es g h.2
      have hs : ∀ x : Unit, (assignEach (e :: es) X.env) = (false, assign e X.env) :: assignEach es X.env := fun _ => by
        have h0 := h.1
        cases e <;> first | rfl | (cases gt <;> simp [chkG] at h0; done)
      refine ⟨pgs_cons (sG gt _ c W X e g h.1) h1 (by rw [hs ()]; rfl), by rw [hs ()]; simp [h2], ?_⟩
      rw [hs (), List.findIdx?_cons]
      simp [h3]
    · cases h
end
theorem tB_v {n : Nat} {c : Ck} {W : XK} {X : Cx} {i : Nat} {e : Expr} (g : Good k P n c W X) (h : chkE P c (.var i) e = true) : PE X e (tB k W (cfOf P n) (.var i)) := by
  simp only [chkE] at h
  split at h
  · rw [Bool.and_eq_true, Bool.and_eq_true] at h
    exact q_varB g (of_decide_eq_true h.1.1) h.1.2 h.2
  · cases h
/-- a name is borrowed, all else read -/
theorem tB_all {n : Nat} {c : Ck} {W : XK} {X : Cx} {t : C} {e : Expr} (g : Good k P n c W X) (h : chkE P c t e = true) (p : PE X e (tE k W (cfOf P n) t)) : PE X e (tB k W (cfOf P n) t) := by
  cases t
  case var i => exact tB_v g h
  all_goals exact tB_of (fun i z => by cases z) p
theorem cl_some {n : Nat} {c : Ck} {W : XK} {X : Cx} (g : Good k P n c W X) {t : Str} (h : P.clB t = true) : ∃ v, clsV k t = some v := by
  unfold clsV
  cases q : clsNames.lookup t with
  | some m => exact ⟨_, rfl⟩
  | none =>
    rcases g.hcl t h with z | ⟨C, z⟩
    · exact absurd q z
    · exact ⟨.ref C, by simp [z]⟩
theorem cls_some {n : Nat} {c : Ck} {W : XK} {X : Cx} (g : Good k P n c W X) : ∀ {ts : List Str}, ts.all P.clB = true → ∃ vs, clsVs k ts = some vs
  | [], _ => ⟨[], rfl⟩
  | t :: ts, h => by
    rw [List.all_cons, Bool.and_eq_true] at h
    obtain ⟨v, h1⟩ := cl_some g h.1
    obtain ⟨vs, h2⟩ := cls_some g h.2
    exact ⟨v :: vs, by simp [clsVs, h1, h2]⟩
/-- what the check tells of an expression -/
def Snd (k : Kx) (P : Pg) (n : Nat) (W : XK) (X : Cx) (t : C) (e : Expr) : Prop := PE X e (tE k W (cfOf P n) t) ∧ (isN t = true → PE X e (tN k W (cfOf P n) t))
theorem Snd.ofE {n : Nat} {W : XK} {X : Cx} {t : C} {e : Expr} (p : PE X e (tE k W (cfOf P n) t)) (h : isN t = false) : Snd k P n W X t e := ⟨p, fun z => by rw [h] at z; cases z⟩
theorem Snd.ofN {n : Nat} {W : XK} {X : Cx} {t : C} {e : Expr} (p : PE X e (tN k W (cfOf P n) t)) : Snd k P n W X t e := ⟨tE_of_N p, fun _ => p⟩
mutual
theorem sE : ∀ (t : C) (n : Nat) (c : Ck) (W : XK) (X : Cx) (e : Expr), Good k P n c W X → chkE P c t e = true → Snd k P n W X t e
  | .var i, n, c, W, X, e, g, h => by
    simp only [chkE] at h
    split at h
    · simp only [Bool.and_eq_true, decide_eq_true_eq] at h
      exact .ofE (q_var g h.1.1 h.1.2 h.2) rfl
    · cases h
  | .int i, n, c, W, X, e, g, h => by
    simp only [chkE] at h
    split at h
    · have := of_decide_eq_true h
      subst this
      exact .ofE (q_sc pe_int (fun _ _ => rfl) fun _ => .int _) rfl
    · cases h
  | .bl i, n, c, W, X, e, g, h => by
    simp only [chkE] at h
    split at h
    · have := of_decide_eq_true h
      subst this
      exact .ofE (q_sc pe_bl (fun _ _ => rfl) fun _ => .bl _) rfl
    · cases h
  | .non, n, c, W, X, e, g, h => by
    simp only [chkE] at h
    split at h
    · exact .ofE (q_sc pe_non (fun _ _ => rfl) fun _ => .non) rfl
    · cases h
  | .str i, n, c, W, X, e, g, h => by
    simp only [chkE] at h
    split at h
    · have := of_decide_eq_true h
      subst this
      exact .ofE (q_sc pe_str (fun _ _ => rfl) fun _ => .str _) rfl
    · cases h
  | .glob x, n, c, W, X, e, g, h => by
    simp only [chkE] at h
    split at h
    · simp only [Bool.and_eq_true, decide_eq_true_eq] at h
      obtain ⟨⟨⟨rfl, h1⟩, h2⟩, h3⟩ := h
      obtain ⟨d, hd⟩ := Option.isSome_iff_exists.mp h3
      exact .ofE (q_glob g hd h1 h2) rfl
    · cases h
  | .tup ts, n, c, W, X, e, g, h => by
    simp only [chkE] at h
    split at h
    · exact .ofE (q_tup (sEs ts _ c W X _ g h).1) rfl
    · cases h
  | .lst ts, n, c, W, X, e, g, h => by
    simp only [chkE] at h
    split at h
    · exact .ofN (q_lst (sEs ts _ c W X _ g h).1)
    · cases h
  | .dct0, n, c, W, X, e, g, h => by
    simp only [chkE] at h
    split at h
    · exact .ofN (q_dct0 g)
    · cases h
  | .bin o a b, n, c, W, X, e, g, h => by
    simp only [chkE] at h
    split at h
    · simp only [Bool.and_eq_true, decide_eq_true_eq] at h
      obtain ⟨⟨rfl, h1⟩, h2⟩ := h
      exact .ofN (q_bin g (tB_all g h1 (sE a _ c W X _ g h1).1) (tB_all g h2 (sE b _ c W X _ g h2).1))
    · cases h
  | .neg a, n, c, W, X, e, g, h => by
    simp only [chkE] at h
    split at h
    · exact .ofE (q_neg (sE a _ c W X _ g h).1) rfl
    · cases h
  | .cmp o a b, n, c, W, X, e, g, h => by
    simp only [chkE] at h
    split at h
    · simp only [Bool.and_eq_true, decide_eq_true_eq, Bool.not_eq_true'] at h
      obtain ⟨⟨⟨rfl, h0⟩, h1⟩, h2⟩ := h
      exact .ofE (q_cmp g (tB_all g h1 (sE a _ c W X _ g h1).1) (tB_all g h2 (sE b _ c W X _ g h2).1) h0) rfl
    · cases h
  | .chain o p a b d, n, c, W, X, e, g, h => by
    simp only [chkE] at h
    split at h
    · simp only [Bool.and_eq_true, decide_eq_true_eq, Bool.not_eq_true'] at h
      obtain ⟨⟨⟨⟨⟨rfl, rfl⟩, h0⟩, h1⟩, h2⟩, h3⟩ := h
      exact .ofE (q_chain g (sE a _ c W X _ g h1).1 (sE b _ c W X _ g h2).1 (sE d _ c W X _ g h3).1 h0) rfl
    · cases h
  | .andv ts, n, c, W, X, e, g, h => by
    simp only [chkE] at h
    split at h
    · simp only [Bool.and_eq_true, Bool.not_eq_true'] at h
      obtain ⟨h1, h2⟩ := h
      rename_i es pos
      cases es with
      | nil => cases h1
      | cons e es => exact .ofE ((sEs ts _ c W X _ g h2).2.2.1 e es pos rfl) rfl
    · cases h
  | .orv ts, n, c, W, X, e, g, h => by
    simp only [chkE] at h
    split at h
    · simp only [Bool.and_eq_true, Bool.not_eq_true'] at h
      obtain ⟨h1, h2⟩ := h
      rename_i es pos
      cases es with
      | nil => cases h1
      | cons e es => exact .ofE ((sEs ts _ c W X _ g h2).2.2.2 e es pos rfl) rfl
    · cases h
  | .notv a, n, c, W, X, e, g, h => by
    simp only [chkE] at h
    split at h
    · exact .ofE (q_not (sE a _ c W X _ g h).1) rfl
    · cases h
  | .ite t a b, n, c, W, X, e, g, h => by
    simp only [chkE] at h
    split at h
    · simp only [Bool.and_eq_true] at h
      obtain ⟨⟨h0, h1⟩, h2⟩ := h
      exact .ofE (q_ite (sT t _ c W X _ g h0) (sE a _ c W X _ g h1).1 (sE b _ c W X _ g h2).1) rfl
    · cases h
  | .sub a i, n, c, W, X, e, g, h => by
    simp only [chkE] at h
    split at h
    · simp only [Bool.and_eq_true] at h
      obtain ⟨⟨h0, h1⟩, h2⟩ := h
      exact .ofE (q_sub g (tB_all g h1 (sE a _ c W X _ g h1).1) (sE i _ c W X _ g h2).1 h0) rfl
    · cases h
  | .slice a lo hi, n, c, W, X, e, g, h => by
    simp only [chkE] at h
    split at h
    · simp only [Bool.and_eq_true] at h
      obtain ⟨⟨h0, h1⟩, h2⟩ := h
      exact .ofN (q_slice g (tB_all g h0 (sE a _ c W X _ g h0).1) (sO lo _ c W X _ g h1) (sO hi _ c W X _ g h2))
    · cases h
  | .rev _, n, c, W, X, e, g, h => by cases h
  | .call f ts, n, c, W, X, e, g, h => by
    simp only [chkE] at h
    split at h
    · simp only [Bool.and_eq_true, decide_eq_true_eq, Bool.not_eq_true'] at h
      obtain ⟨⟨⟨⟨⟨⟨⟨rfl, h1⟩, h2⟩, h3⟩, h4⟩, h5⟩, h6⟩, hh⟩ := h
      rename_i p es pos
      obtain ⟨a, ha⟩ := g.hfn _ h3
      cases es with
      | nil => cases h4
      | cons e es => exact .ofE (q_call g hh ha h1 h2 (sEs ts _ c W X _ g h6).1 h5) rfl
    · cases h
  | .new x ts, n, c, W, X, e, g, h => by
    simp only [chkE] at h
    split at h
    · simp only [Bool.and_eq_true, decide_eq_true_eq, Bool.not_eq_true'] at h
      obtain ⟨⟨⟨⟨⟨⟨⟨⟨rfl, h1⟩, h2⟩, h3⟩, h7⟩, h4⟩, h5⟩, h6⟩, hh⟩ := h
      rename_i p es pos
      cases es with
      | nil => cases h4
      | cons e es => exact .ofE (q_new g hh h3 h7 h1 h2 (sEs ts _ c W X _ g h6).1 h5) rfl
    · cases h
  | .word t, n, c, W, X, e, g, h => by
    simp only [chkE] at h
    split at h
    · simp only [Bool.and_eq_true, decide_eq_true_eq, Bool.not_eq_true'] at h
      obtain ⟨⟨⟨⟨⟨⟨h1, rfl⟩, h2⟩, h3⟩, h4⟩, h5⟩, hh⟩ := h
      exact .ofE (q_word g hh h1 h2 h3 h4 fun m _ _ E X' g' => (sE t _ _ _ X' _ g' h5).1) rfl
    · cases h
  | .blt b ts, n, c, W, X, e, g, h => by
    simp only [chkE] at h
    split at h
    · simp only [Bool.and_eq_true, decide_eq_true_eq, Bool.not_eq_true'] at h
      obtain ⟨⟨⟨⟨⟨⟨rfl, rfl⟩, h1⟩, h2⟩, h3⟩, h4⟩, hh⟩ := h
      obtain ⟨t, rfl⟩ : ∃ t, ts = [t] := by
        cases ts with
        | nil => simp [chkEs] at h4
        | cons t ts =>
          cases ts with
          | nil => exact ⟨t, rfl⟩
          | cons u us => simp [chkEs] at h4
      simp only [chkEs, Bool.and_eq_true] at h4
      exact .ofN (q_lenset g hh h1 h2 (tB_all g h4.1.2 (sE t _ c W X _ g h4.1.2).1) h3)
    · simp only [Bool.and_eq_true, decide_eq_true_eq] at h
      obtain ⟨⟨⟨rfl, h1⟩, h2⟩, h3⟩ := h
      obtain ⟨a, bb, rfl⟩ : ∃ a bb, ts = [a, .bl bb] := by
        unfold litB at h2
        split at h2
        · exact ⟨_, _, rfl⟩
        · cases h2
      simp only [chkEs, Bool.and_eq_true] at h3
      obtain ⟨⟨h4, h5⟩, ⟨h6, h7⟩, _⟩ := h3
      exact .ofN (q_count g (tB_all g h5 (sE a _ c W X _ g h5).1) (tB_all g h7 (sE (.bl bb) _ c W X _ g h7).1) h4 h6 h1)
    · rename_i x p es pos hne
      split at h
      · rename_i f hf
        simp only [Bool.and_eq_true, decide_eq_true_eq, Bool.not_eq_true'] at h
        obtain ⟨⟨⟨⟨⟨rfl, h1⟩, h2⟩, h3⟩, h4⟩, hh⟩ := h
        cases es with
        | nil => cases h2
        | cons e es => exact .ofN (q_blt g hh hf h1 (sEs ts _ c W X _ g h4).2.1 h3)
      · cases h
    · cases h
  | .exi i b, n, c, W, X, e, g, h => by
    simp only [chkE] at h
    split at h
    · simp only [Bool.and_eq_true, decide_eq_true_eq] at h
      obtain ⟨⟨⟨⟨⟨⟨⟨rfl, h1⟩, h2⟩, h3⟩, h4⟩, h5⟩, h6⟩, h⟩ := h
      have v := g.vis h2
      unfold Vis at v
      rw [g.sc] at v
      exact .ofE (g.exI _ _ _ _ _ _ _ _ h h1 v ⟨(okN_d h3).1, (okN_d h3).2.1⟩ (of_decide_eq_true h4) (of_decide_eq_true h5) ⟨(okN_d h6).1, (okN_d h6).2.2⟩) rfl
    · cases h
  | .attr a f, n, c, W, X, e, g, h => by
    simp only [chkE] at h
    split at h
    · simp only [Bool.and_eq_true, decide_eq_true_eq] at h
      obtain ⟨⟨rfl, h1⟩, h2⟩ := h
      exact .ofE (q_attr g (sE a _ c W X _ g h2).1 h1) rfl
    · cases h
  | .isi a ts, n, c, W, X, e, g, h => by
    simp only [chkE] at h
    split at h
    · simp only [Bool.and_eq_true, decide_eq_true_eq] at h
      obtain ⟨⟨⟨⟨⟨⟨⟨rfl, h1⟩, h2⟩, h3⟩, h4⟩, h5⟩, h6⟩, h7⟩ := h
      obtain ⟨vs, hv⟩ := cls_some g h6
      unfold clsE1 at h4
      split at h4
      · split at h4
        · have := of_decide_eq_true h4
          subst this
          simp only [okCls, List.all_cons, List.all_nil, Bool.and_true, Bool.and_eq_true] at h5
          simp only [clsVs] at hv
          rename_i p _ t
          cases e1 : clsV k t with
          | none => rw [e1] at hv; cases hv
          | some v => exact .ofE (q_isi1 g h1 (sE a _ c W X _ g h3).1 h2 h5 e1 (fun _ => .inr (.inr trivial))) rfl
        · cases h4
      · exact .ofE (q_isiN g h1 (sE a _ c W X _ g h3).1 h2 h5 h4 h7 hv) rfl
      · cases h4
    · cases h
  | .index a b, n, c, W, X, e, g, h => by
    simp only [chkE] at h
    split at h
    · simp only [Bool.and_eq_true, decide_eq_true_eq] at h
      obtain ⟨⟨⟨⟨⟨rfl, h1⟩, h2⟩, h3⟩, h4⟩, h5⟩ := h
      exact .ofN (q_index g (tB_all g h4 (sE a _ c W X _ g h4).1) (tB_all g h5 (sE b _ c W X _ g h5).1) h2 h3 h1)
    · cases h
  | .comp own gt it t el, n, c, W, X, e, g, h => by
    simp only [chkE] at h
    split at h
    · simp only [Bool.and_eq_true, decide_eq_true_eq, Bool.not_eq_true'] at h
      obtain ⟨⟨⟨⟨⟨⟨⟨⟨rfl, h1⟩, h2⟩, h3⟩, h4⟩, h5⟩, h6⟩, h7⟩, hh⟩ := h
      rename_i ps
      have q := q_comp (pos := ps) g hh (own := ownP c own) (gt := gt) (it := it) (t := t) (e := el) (sI it true _ c W X _ _ g h4) h2 (fun i hi => by rw [ownP_snd]; exact of_decide_eq_true (List.all_eq_true.mp h3 i hi)) (fun X' g' => sG gt _ _ _ X' _ g' h5) (fun X' g' => sTo t _ _ _ X' _ g' h6) (fun X' g' => (sE el _ _ _ X' _ g' h7).1) h1
      rw [ownP_snd] at q
      exact .ofN q
    · cases h
  | .dcomp own gt it t kx vx, n, c, W, X, e, g, h => by
    simp only [chkE] at h
    split at h
    · simp only [Bool.and_eq_true, decide_eq_true_eq, Bool.not_eq_true'] at h
      obtain ⟨⟨⟨⟨⟨⟨⟨⟨⟨rfl, h1⟩, h2⟩, h3⟩, h4⟩, h5⟩, h6⟩, h7⟩, h8⟩, hh⟩ := h
      rename_i ps
      have q := q_dcomp (pos := ps) g hh (own := ownP c own) (gt := gt) (it := it) (t := t) (e := kx) (e2 := vx) (sI it true _ c W X _ _ g h4) h2 (fun i hi => by rw [ownP_snd]; exact of_decide_eq_true (List.all_eq_true.mp h3 i hi)) (fun X' g' => sG gt _ _ _ X' _ g' h5) (fun X' g' => sTo t _ _ _ X' _ g' h6) (fun X' g' => (sE kx _ _ _ X' _ g' h7).1) (fun X' g' => (sE vx _ _ _ X' _ g' h8).1) h1
      rw [ownP_snd] at q
      exact .ofN q
    · cases h
theorem sEs : ∀ (ts : List C) (n : Nat) (c : Ck) (W : XK) (X : Cx) (es : List Expr), Good k P n c W X → chkEs P c ts es = true → PA X es (tA k W (cfOf P n) ts) ∧ PA X es (tAB k W (cfOf P n) ts) ∧
    (∀ e es' pos, es = e :: es' → PE X (.BoolOp .And (e :: es') pos) (tAndV' k W (cfOf P n) ts)) ∧ ∀ e es' pos, es = e :: es' → PE X (.BoolOp .Or (e :: es') pos) (tOrV' k W (cfOf P n) ts)
  | [], n, c, W, X, es, g, h => by
    simp only [chkEs] at h
    split at h
    · exact ⟨q_nil, q_nilB, fun _ _ _ z => (by cases z), fun _ _ _ z => (by cases z)⟩
    · cases h
  | t :: ts, n, c, W, X, es, g, h => by
    simp only [chkEs] at h
    split at h
    · rename_i e es
      simp only [Bool.and_eq_true] at h
      obtain ⟨⟨h0, h1⟩, h2⟩ := h
      have p := sE t _ c W X e g h1
      obtain ⟨p1, p2, p3, p4⟩ := sEs ts _ c W X es g h2
      refine ⟨q_cons p.1 p1 h0, q_consB (tB_all g h1 p.1) p2 h0, fun e' es' pos z => ?_, fun e' es' pos z => ?_⟩
      · cases z
        cases es with
        | nil => cases ts with
          | nil => exact q_and1 p.1
          | cons _ _ => simp [chkEs] at h2
        | cons e2 es2 => cases ts with
          | nil => simp [chkEs] at h2
          | cons t2 ts2 => exact q_andc p.1 (p3 e2 es2 pos rfl)
      · cases z
        cases es with
        | nil => cases ts with
          | nil => exact q_or1 p.1
          | cons _ _ => simp [chkEs] at h2
        | cons e2 es2 => cases ts with
          | nil => simp [chkEs] at h2
          | cons t2 ts2 => exact q_orc p.1 (p4 e2 es2 pos rfl)
    · cases h
theorem sO : ∀ (t : Option C) (n : Nat) (c : Ck) (W : XK) (X : Cx) (e : Option Expr), Good k P n c W X → chkO P c t e = true → PO X e (tP k W (cfOf P n) t)
  | none, n, c, W, X, e, g, h => by
    simp only [chkO] at h
    split at h
    · exact q_pno
    · cases h
  | some t, n, c, W, X, e, g, h => by
    simp only [chkO] at h
    split at h
    · exact q_psome (sE t _ c W X _ g h).1
    · cases h
theorem sTo : ∀ (t : Option T) (n : Nat) (c : Ck) (W : XK) (X : Cx) (es : List Expr), Good k P n c W X → chkTo P c t es = true → PTs X es (tTo k W (cfOf P n) t)
  | none, n, c, W, X, es, g, h => by
    simp only [chkTo] at h
    split at h
    · exact pts_to trivial
    · cases h
  | some t, n, c, W, X, es, g, h => by
    simp only [chkTo] at h
    split at h
    · exact pts_to (sT t _ c W X _ g h)
    · cases h
theorem sT : ∀ (t : T) (n : Nat) (c : Ck) (W : XK) (X : Cx) (e : Expr), Good k P n c W X → chkT P c t e = true → PT X e (tT k W (cfOf P n) t)
  | .e t, n, c, W, X, e, g, h => by
    simp only [chkT] at h
    split at h
    · cases t
      case cmp o a b =>
        simp only [chkE] at h
        split at h
        · rename_i he
          cases he
          simp only [Bool.and_eq_true, decide_eq_true_eq, Bool.not_eq_true'] at h
          obtain ⟨⟨⟨rfl, h0⟩, h1⟩, h2⟩ := h
          exact q_testcmp g (tB_all g h1 (sE a _ c W X _ g h1).1) (tB_all g h2 (sE b _ c W X _ g h2).1) h0
        · cases h
      case chain o p a b d =>
        simp only [chkE] at h
        split at h
        · rename_i he
          cases he
          simp only [Bool.and_eq_true, decide_eq_true_eq, Bool.not_eq_true'] at h
          obtain ⟨⟨⟨⟨⟨rfl, rfl⟩, h0⟩, h1⟩, h2⟩, h3⟩ := h
          exact q_testchain g (sE a _ c W X _ g h1).1 (sE b _ c W X _ g h2).1 (sE d _ c W X _ g h3).1 h0
        · cases h
      all_goals (exfalso; simp [chkE] at h; done)
    · rw [Bool.and_eq_true] at h
      exact q_test g (tB_all g h.2 (sE t _ c W X _ g h.2).1) (boolE h.1 X.env)
  | .all ts, n, c, W, X, e, g, h => by
    simp only [chkT] at h
    split at h
    · simp only [Bool.and_eq_true, Bool.not_eq_true'] at h
      obtain ⟨h1, h2⟩ := h
      rename_i es pos
      cases es with
      | nil => cases h1
      | cons e es => exact ((sTs ts _ c W X _ g h2).1 e es pos rfl).pt
    · cases h
  | .any ts, n, c, W, X, e, g, h => by
    simp only [chkT] at h
    split at h
    · simp only [Bool.and_eq_true, Bool.not_eq_true'] at h
      obtain ⟨h1, h2⟩ := h
      rename_i es pos
      cases es with
      | nil => cases h1
      | cons e es => exact ((sTs ts _ c W X _ g h2).2 e es pos rfl).pt
    · cases h
  | .not t, n, c, W, X, e, g, h => by
    simp only [chkT] at h
    split at h
    · exact q_tnot (sT t _ c W X _ g h)
    · cases h
theorem sTs : ∀ (ts : List T) (n : Nat) (c : Ck) (W : XK) (X : Cx) (es : List Expr), Good k P n c W X → chkTs P c ts es = true →
    (∀ e es' pos, es = e :: es' → PW X (.BoolOp .And (e :: es') pos) (tAll k W (cfOf P n) ts)) ∧ ∀ e es' pos, es = e :: es' → PW X (.BoolOp .Or (e :: es') pos) (tAny k W (cfOf P n) ts)
  | [], n, c, W, X, es, g, h => by
    simp only [chkTs] at h
    split at h
    · exact ⟨fun _ _ _ z => (by cases z), fun _ _ _ z => (by cases z)⟩
    · cases h
  | t :: ts, n, c, W, X, es, g, h => by
    simp only [chkTs] at h
    split at h
    · rename_i e es
      simp only [Bool.and_eq_true] at h
      obtain ⟨h1, h2⟩ := h
      have p := sT t _ c W X e g h1
      obtain ⟨p3, p4⟩ := sTs ts _ c W X es g h2
      refine ⟨fun e' es' pos z => ?_, fun e' es' pos z => ?_⟩
      · cases z
        cases es with
        | nil => cases ts with
          | nil => exact q_all1 p
          | cons _ _ => simp [chkTs] at h2
        | cons e2 es2 => cases ts with
          | nil => simp [chkTs] at h2
          | cons t2 ts2 => exact q_allc p (p3 e2 es2 pos rfl)
      · cases z
        cases es with
        | nil => cases ts with
          | nil => exact q_any1 p
          | cons _ _ => simp [chkTs] at h2
        | cons e2 es2 => cases ts with
          | nil => simp [chkTs] at h2
          | cons t2 ts2 => exact q_anyc p (p4 e2 es2 pos rfl)
    · cases h
theorem sI : ∀ (it : I) (w : Bool) (n : Nat) (c : Ck) (W : XK) (X : Cx) (tg e : Expr), Good k P n c W X → chkI P c it tg e = true → PI X tg e (tI k W (cfOf P n) w it)
  | .seq a, w, n, c, W, X, tg, e, g, h => by
    simp only [chkI] at h
    exact q_iseq g (sE a _ c W X _ g h).1 (tB_all g h (sE a _ c W X _ g h).1)
  | .rng1 a, w, n, c, W, X, tg, e, g, h => by
    simp only [chkI] at h
    split at h
    · simp only [Bool.and_eq_true, decide_eq_true_eq] at h
      obtain ⟨⟨⟨rfl, h1⟩, h2⟩, h3⟩ := h
      exact q_irng1 g h1 (sE a _ c W X _ g h3).1 h2
    · cases h
  | .rng2 a b, w, n, c, W, X, tg, e, g, h => by
    simp only [chkI] at h
    split at h
    · simp only [Bool.and_eq_true, decide_eq_true_eq] at h
      obtain ⟨⟨⟨⟨⟨rfl, h1⟩, h2⟩, h3⟩, h4⟩, h5⟩ := h
      exact q_irng2 g h1 (sE a _ c W X _ g h4).1 (sE b _ c W X _ g h5).1 h2 h3
    · cases h
  | .enum a, w, n, c, W, X, tg, e, g, h => by
    simp only [chkI] at h
    split at h
    · simp only [Bool.and_eq_true, decide_eq_true_eq] at h
      obtain ⟨⟨⟨rfl, h1⟩, h2⟩, h3⟩ := h
      exact q_ienum g h1 (sE a _ c W X _ g h3).1 (tB_all g h3 (sE a _ c W X _ g h3).1) h2
    · cases h
  | .zip a b, w, n, c, W, X, tg, e, g, h => by
    simp only [chkI] at h
    split at h
    · simp only [Bool.and_eq_true, decide_eq_true_eq] at h
      obtain ⟨⟨⟨⟨⟨rfl, h1⟩, h2⟩, h3⟩, h4⟩, h5⟩ := h
      exact q_izip g h1 (sE a _ c W X _ g h4).1 (tB_all g h4 (sE a _ c W X _ g h4).1) (sE b _ c W X _ g h5).1 (tB_all g h5 (sE b _ c W X _ g h5).1) h2 h3
    · cases h
  | .items _, w, n, c, W, X, tg, e, g, h => by cases h
end
end
end Ev
set_option maxHeartbeats 16000000
/-! EvChkS: statements checked. -/
namespace Ev
open PySem PySem.Spec PyProof.Rows L2
def starE (e : Expr) : Bool := match e with
  | .Starred _ _ => true
  | _ => false
/-- which names a pair's stores are swapped for -/
def swS (sc : Scope) (ts vs : List Expr) : Option (Option (List Str)) :=
  if (!(ts.length == 2 || ts.length == 3) || vs.length != ts.length) = true then some none
  else if vs.any starE = true then some none
  else
    let line := (ts.head?.map (·.pos.line)).getD 0
    let names := ts.filterMap fun t => match t with
      | .Name id pos => if (sc.names.lookup id == some .local && pos.line == line) = true then some id else none
      | _ => none
    if (names.length != ts.length || names.eraseDups.length != names.length) = true then some none
    else if vs.all (foldedForSure 8) = true then some none
    else if vs.all (constantsAlone 8) = true then none
    else some (some names)
theorem blk_fn {env : PySem.Env} (h : env.scope.kind = .function) : env.blockKind = .function := by
  unfold PySem.Env.blockKind
  rw [h]
  rfl
theorem swS_ok {env : PySem.Env} {ts vs : List Expr} {kt k2 : Nat} {pt pt2 : Pos} {o : Option (List Str)} (hk : env.scope.kind = .function) (h : swS env.scope ts vs = some o) : swappedStores [.Tuple ts kt pt] (.Tuple vs k2 pt2) env = pure o := by
  unfold swS at h
  unfold swappedStores
  have hb : (env.blockKind != .function) = false := by rw [blk_fn hk]; rfl
  show (if (!(ts.length == 2 || ts.length == 3) || vs.length != ts.length || env.blockKind != .function) = true then _ else _) = _
  rw [hb, Bool.or_false]
  split at h
  · rename_i g
    cases h
    rw [if_pos g]
  · rename_i g
    rw [if_neg g]
    split at h
    · rename_i g2
      cases h
      exact if_pos g2
    · rename_i g2
      refine (if_neg g2).trans ?_
      dsimp only at h ⊢
      split at h
      · rename_i g3
        cases h
        exact if_pos g3
      · rename_i g3
        refine (if_neg g3).trans ?_
        split at h
        · rename_i g4
          cases h
          exact if_pos g4
        · rename_i g4
          refine (if_neg g4).trans ?_
          split at h
          · cases h
          · rename_i g5
            cases h
            exact if_neg g5
/-- is a comprehension's value stored within its block -/
def swC (c : Ck) (x : Str) (px : Pos) (e : Expr) : Option Bool := match e with
  | .ListComp _ _ sc pos => some (decide (c.sc.names.lookup x = some .local) && px.line == pos.line && !(sc.names.any fun q => q.1 == x && (q.2 == .local || q.2 == .cell)))
  | .DictComp _ _ _ sc pos => some (decide (c.sc.names.lookup x = some .local) && px.line == pos.line && !(sc.names.any fun q => q.1 == x && (q.2 == .local || q.2 == .cell)))
  | .SetComp _ _ _ _ => none
  | _ => some false
def noComp (e : Expr) : Bool := match e with
  | .ListComp _ _ _ _ => false
  | .DictComp _ _ _ _ _ => false
  | .SetComp _ _ _ _ => false
  | _ => true
theorem noComp_ok {e : Expr} (h : noComp e = true) (o : Option Expr) (l : Nat) (env : PySem.Env) : swapsWith e o l env = pure false := by
  cases e <;> first | (cases h; done) | (cases o <;> rfl)
def tupB (e : Expr) : Bool := match e with
  | .Tuple _ _ _ => true
  | _ => false
theorem beqL {a b : Option NameKind} : (a == b) = decide (a = b) := by
  cases h : decide (a = b) with
  | true => rw [of_decide_eq_true h]; simp
  | false => exact beq_eq_false_iff_ne.mpr (of_decide_eq_false h)
section
variable {k : Kx} {P : Pg} {n : Nat} {c : Ck} {W : XK} {X : Cx}
theorem swC_ok (g : Good k P n c W X) (hk : c.sc.kind = .function) {x : Str} {px : Pos} {e : Expr} {b : Bool} (h : swC c x px e = some b) (l : Nat) : swapsWith e (some (.Name x px)) l X.env = pure b := by
  have hb : (X.env.blockKind == .function) = true := by rw [blk_fn (by rw [g.sc]; exact hk)]; rfl
  have hx : X.env.kindOf x = c.sc.names.lookup x := by rw [← g.sc]; rfl
  cases e <;> first | (cases h; rfl) | (cases h; done) | skip
  case ListComp elt gs sc pos =>
    injection h with h
    subst h
    unfold swapsWith
    simp only [hb, hx, beqL, Expr.pos, Bool.true_and]
  case DictComp ke ve gs sc pos =>
    injection h with h
    subst h
    unfold swapsWith
    simp only [hb, hx, beqL, Expr.pos, Bool.true_and]
end
def nmB (c : Ck) (i : Nat) (x : Str) : Bool := decide (c.N[i]? = some x)
def chkNs (c : Ck) : List (Nat × Bool) → List Expr → Bool
  | [], es => match es with
    | [] => true
    | _ => false
  | (i, _) :: ts, es => match es with
    | .Name x _ :: es => nmB c i x && locB c x && chkNs c ts es
    | _ => false
def chkWs (P : Pg) (c : Ck) : List Bool → List C → List Expr → Bool
  | [], [], [] => true
  | w :: ws, t :: ts, e :: es => plainB e && chkE P c t e && (!w || isN t) && chkWs P c ws ts es
  | _, _, _ => false
mutual
def chkS (P : Pg) (c : Ck) : S → Stmt → Bool
  | .asg i t, st => match st with
    | .Assign [.Name x px] e _ => nmB c i x && locB c x && (swC c x px e).isSome && chkE P c t e
    | _ => false
  | .own i t, st => match st with
    | .Assign [.Name x px] e _ => nmB c i x && locB c x && (swC c x px e).isSome && isN t && chkE P c t e
    | _ => false
  | .par ts cs, st => match st with
    | .Assign [.Tuple tgs _ _] (.Tuple es _ _) _ => chkNs c ts tgs && decide (ts.map (·.1)).Nodup && chkWs P c (ts.map (·.2)) cs es && (swS c.sc tgs es).isSome && decide (ts.length ≤ lim) && !c.hot
    | _ => false
  | .unp gt t, st => match st with
    | .Assign [tg] e _ => tupB tg && !tupB e && chkG c gt tg && chkE P c t e
    | _ => false
  | .ret t, st => match st with
    | .Return (some e) _ => chkE P c t e
    | _ => false
  | .retn, st => match st with
    | .Return none _ => true
    | _ => false
  | .exp t, st => match st with
    | .Expr e _ => noComp e && chkE P c t e
    | _ => false
  | .app i t, st => match st with
    | .Expr (.Call (.Attribute (.Name x _) m apos) [e] [] cpos) _ => decide (m = "append") && nmB c i x && visB c x && okN x && (apos.endLine == cpos.line) && plainB e && chkE P c t e
    | _ => false
  | .ext i t, st => match st with
    | .Expr (.Call (.Attribute (.Name x _) m apos) [e] [] cpos) _ => decide (m = "extend") && nmB c i x && visB c x && okN x && (apos.endLine == cpos.line) && plainB e && chkE P c t e
    | _ => false
  | .setI i u t, st => match st with
    | .Assign [.Subscript (.Name x _) ei _] e _ => nmB c i x && visB c x && okN x && plainB ei && chkE P c t e && chkE P c u ei
    | _ => false
  | .frz _, _ => false
  | .iff t a b, st => match st with
    | .If e sa sb _ => chkT P c t e && chkSs P c a sa && chkSs P c b sb
    | _ => false
  | .loop t b, st => match st with
    | .While e sb [] _ => chkT P c t e && chkSs P c b sb
    | _ => false
  | .for gt it b, st => match st with
    | .For tg e sb [] _ => nsB e && chkG c gt tg && chkI P c it tg e && chkSs P c b sb && !c.hot
    | _ => false
  | .brk, st => match st with
    | .Break _ => true
    | _ => false
  | .cnt, st => match st with
    | .Continue _ => true
    | _ => false
  | .pass, st => match st with
    | .Pass _ => true
    | _ => false
  | .never, _ => true
  | .aug i o t, st => match st with
    | .AugAssign (.Name x _) op e _ => nmB c i x && locB c x && ((decide (o = .add) && decide (op = .Add)) || (decide (o = .sub) && decide (op = .Sub))) && chkE P c t e
    | _ => false
  | .raise x d, st => match d, st with
    | none, .Raise (some (.Call (.Name y _) [] [] _)) none _ => decide (x = y) && glB c x && okN x && P.exB x && !c.hot
    | _, _ => false
def chkSs (P : Pg) (c : Ck) : List S → List Stmt → Bool
  | [], sts => match sts with
    | [] => true
    | _ => false
  | .frz _ :: r, sts => chkSs P c r sts
  | s :: r, sts => match sts with
    | st :: sts => chkS P c s st && chkSs P c r sts
    | _ => false
end
section
variable {k : Kx} {P : Pg} {n : Nat} {c : Ck} {W : XK} {X : Cx}
theorem sNs (g : Good k P n c W X) : ∀ {ts : List (Nat × Bool)} {es : List Expr}, chkNs c ts es = true → PGs X es (gNames ts) ∧ (assignEach es X.env).length = ts.length ∧ (assignEach es X.env).findIdx? (·.1) = none
  | [], es, h => by
    simp only [chkNs] at h
    split at h
    · exact ⟨pgs_nil, rfl, rfl⟩
    · cases h
  | (i, w) :: ts, es, h => by
    simp only [chkNs] at h
    split at h
    · simp only [Bool.and_eq_true] at h
      obtain ⟨⟨h1, h2⟩, h3⟩ := h
      obtain ⟨p1, p2, p3⟩ := sNs g h3
      refine ⟨pgs_cons (pg_name (by rw [g.hN]; exact g.nd) (by rw [g.hN]; exact of_decide_eq_true h1) (g.loc h2).1 (g.loc h2).2) p1 rfl, by show _ + 1 = _ + 1; rw [p2], ?_⟩
      show List.findIdx? _ (_ :: assignEach _ X.env) = none
      rw [List.findIdx?_cons]
      simp [p3]
    · cases h
theorem sWs (g : Good k P n c W X) : ∀ {ws : List Bool} {ts : List C} {es : List Expr}, chkWs P c ws ts es = true → PA X es (tAO k W (cfOf P n) ws ts)
  | [], [], [], _ => o_nil
  | w :: ws, t :: ts, e :: es, h => by
    simp only [chkWs, Bool.and_eq_true] at h
    obtain ⟨⟨⟨h1, h2⟩, h3⟩, h4⟩ := h
    have p := sE t _ c W X e g h2
    cases w with
    | false => exact o_consV p.1 (sWs g h4) h1
    | true => exact o_consN (p.2 (by simpa using h3)) (sWs g h4) h1
  | [], _ :: _, _, h => by cases h
  | [], [], _ :: _, h => by cases h
  | _ :: _, [], _, h => by cases h
  | _ :: _, _ :: _, [], h => by cases h
/-- name = e, whatever the way of the store -/
theorem asg_way (g : Good k P n c W X) (hk : c.sc.kind = .function) {i : Nat} {x : Str} {px pos : Pos} {t : C} {e : Expr} (h1 : nmB c i x = true) (h2 : locB c x = true) (h3 : (swC c x px e).isSome = true) (h4 : chkE P c t e = true) :
    (∃ te, PS X (.Assign [.Name x px] e pos) (tAsg te (gName i)) ∧ ∀ σ H Q, tE k W (cfOf P n) t σ H Q → te σ H Q) ∧ (isN t = true → ∃ te, PS X (.Assign [.Name x px] e pos) (tAsg te (gName i)) ∧ ∀ σ H Q, tN k W (cfOf P n) t σ H Q → te σ H Q) := by
  obtain ⟨b, hb⟩ := Option.isSome_iff_exists.mp h3
  have hs := swC_ok g hk hb pos.line
  have hi := of_decide_eq_true h1
  have p := sE t _ c W X e g h4
  cases b with
  | false =>
    exact ⟨⟨_, ps_set (by rw [g.hN]; exact g.nd) (by rw [g.hN]; exact hi) (g.loc h2).1 p.1 hs (g.loc h2).2, fun _ _ _ q => q⟩,
      fun hn => ⟨_, ps_set (by rw [g.hN]; exact g.nd) (by rw [g.hN]; exact hi) (g.loc h2).1 (p.2 hn) hs (g.loc h2).2, fun _ _ _ q => q⟩⟩
  | true =>
    have key : ∃ te, PS X (.Assign [.Name x px] e pos) (tAsg te (gName i)) ∧ ∀ σ H Q, tN k W (cfOf P n) t σ H Q → te σ H Q := by
      cases e <;> first | (cases hb; done) | skip
      case ListComp elt gs sc ps =>
        have hl : c.sc.names.lookup x = some .local := by
          injection hb with hb
          simp only [Bool.and_eq_true, decide_eq_true_eq] at hb
          exact hb.1.1
        cases t <;> first | (exfalso; simp [chkE] at h4; done) | skip
        rename_i own gt it t el
        simp only [chkE] at h4
        split at h4
        · rename_i he
          cases he
          simp only [Bool.and_eq_true, decide_eq_true_eq, Bool.not_eq_true'] at h4
          obtain ⟨⟨⟨⟨⟨⟨⟨⟨rfl, k1⟩, k2⟩, k3⟩, k4⟩, k5⟩, k6⟩, k7⟩, hh⟩ := h4
          have hv : ∀ j ∈ gvars gt, j ∈ (ownP c own).map (·.2) := fun j hj => by rw [ownP_snd]; exact of_decide_eq_true (List.all_eq_true.mp k3 j hj)
          refine ⟨_, r_setComp g hh (own := ownP c own) (gt := gt) (it := it) (t := t) (e := el) hi hl hs (sI it true _ c W X _ _ g k4) k2 hv (fun X' g' => sG gt _ _ _ X' _ g' k5) (fun X' g' => sTo t _ _ _ X' _ g' k6) (fun X' g' => (sE el _ _ _ X' _ g' k7).1) k1, fun σ H Q q => ?_⟩
          have z := comp_read (k := k) (W := W) (Y := cfOf P n) (own := (ownP c own).map (·.2)) (it := it) (t := t) (e := el) hv σ H Q
          rw [ownP_snd] at z ⊢
          exact z q
        · cases h4
      case DictComp ke ve gs sc ps =>
        have hl : c.sc.names.lookup x = some .local := by
          injection hb with hb
          simp only [Bool.and_eq_true, decide_eq_true_eq] at hb
          exact hb.1.1
        cases t <;> first | (exfalso; simp [chkE] at h4; done) | skip
        rename_i own gt it t kx vx
        simp only [chkE] at h4
        split at h4
        · rename_i he
          cases he
          simp only [Bool.and_eq_true, decide_eq_true_eq, Bool.not_eq_true'] at h4
          obtain ⟨⟨⟨⟨⟨⟨⟨⟨⟨rfl, k1⟩, k2⟩, k3⟩, k4⟩, k5⟩, k6⟩, k7⟩, k8⟩, hh⟩ := h4
          have hv : ∀ j ∈ gvars gt, j ∈ (ownP c own).map (·.2) := fun j hj => by rw [ownP_snd]; exact of_decide_eq_true (List.all_eq_true.mp k3 j hj)
          refine ⟨_, r_setDcomp g hh (own := ownP c own) (gt := gt) (it := it) (t := t) (e := kx) (e2 := vx) hi hl hs (sI it true _ c W X _ _ g k4) k2 hv (fun X' g' => sG gt _ _ _ X' _ g' k5) (fun X' g' => sTo t _ _ _ X' _ g' k6) (fun X' g' => (sE kx _ _ _ X' _ g' k7).1) (fun X' g' => (sE vx _ _ _ X' _ g' k8).1) k1, fun σ H Q q => ?_⟩
          have z := dcomp_read (k := k) (W := W) (Y := cfOf P n) (own := (ownP c own).map (·.2)) (it := it) (t := t) (e := kx) (e2 := vx) hv σ H Q
          rw [ownP_snd] at z ⊢
          exact z q
        · cases h4
    obtain ⟨te, p1, p2⟩ := key
    exact ⟨⟨te, p1, fun σ H Q q => p2 σ H Q (tE_N σ H Q q)⟩, fun _ => ⟨te, p1, p2⟩⟩
theorem filt_le {α β : Type} (f : α → Option β) : ∀ l : List α, (l.filterMap f).length ≤ l.length
  | [] => Nat.le_refl _
  | a :: l => by
    rw [List.filterMap_cons]
    have := filt_le f l
    cases f a <;> simp <;> omega
theorem filt_all {α β : Type} (f : α → Option β) : ∀ l : List α, (l.filterMap f).length = l.length → l.map f = (l.filterMap f).map some
  | [], _ => rfl
  | a :: l, h => by
    cases e : f a with
    | none =>
      rw [List.filterMap_cons_none e] at h
      have := filt_le f l
      simp at h
      omega
    | some b =>
      rw [List.filterMap_cons_some e] at h ⊢
      simp only [List.length_cons, Nat.add_right_cancel_iff] at h
      rw [List.map_cons, List.map_cons, filt_all f l h, e]
def locName (sc : Scope) (line : Nat) (t : Expr) : Option Str := match t with
  | .Name id pos => if (sc.names.lookup id == some .local && pos.line == line) = true then some id else none
  | _ => none
theorem locName_some {sc : Scope} {line : Nat} {x y : Str} {px : Pos} (h : locName sc line (.Name x px) = some y) : sc.names.lookup x = some .local ∧ x = y := by
  have h : (if (sc.names.lookup x == some .local && px.line == line) = true then some x else none) = some y := h
  split at h
  · rename_i g
    rw [Bool.and_eq_true] at g
    cases h
    exact ⟨by simpa using g.1, rfl⟩
  · cases h
theorem swS_some {sc : Scope} {ts vs : List Expr} {names : List Str} (h : swS sc ts vs = some (some names)) : (ts.length = 2 ∨ ts.length = 3) ∧ vs.length = ts.length ∧ ∃ line, ts.map (locName sc line) = names.map some := by
  unfold swS at h
  split at h
  · cases h
  · rename_i g
    split at h
    · cases h
    · dsimp only at h
      split at h
      · cases h
      · rename_i g3
        split at h
        · cases h
        · split at h
          · cases h
          · injection h with h
            injection h with h
            simp only [Bool.or_eq_true, Bool.not_eq_true', Bool.or_eq_false_iff, bne_iff_ne, ne_eq, not_or, Decidable.not_not, beq_eq_false_iff_ne] at g g3
            refine ⟨by have := g.1; simp at this; omega, g.2, (ts.head?.map (·.pos.line)).getD 0, ?_⟩
            have q := filt_all (locName sc ((ts.head?.map fun x : Expr => x.pos.line).getD 0)) ts (show (ts.filterMap (locName sc ((ts.head?.map fun x : Expr => x.pos.line).getD 0))).length = ts.length from g3.1)
            rw [q]
            exact congrArg (List.map some) h
theorem sPar (g : Good k P n c W X) (hh : c.hot = false) {ts : List (Nat × Bool)} {cs : List C} {tgs es : List Expr} {kt k2 : Nat} {pt pt2 pos : Pos} {names : List Str} (h1 : chkNs c ts tgs = true) (h2 : (ts.map (·.1)).Nodup) (h3 : chkWs P c (ts.map (·.2)) cs es = true) (ho : swS c.sc tgs es = some (some names))
    (hw : swappedStores [.Tuple tgs kt pt] (.Tuple es k2 pt2) X.env = pure (some names)) (pw : PA X es (tAO k W (cfOf P n) (ts.map (·.2)) cs)) : PS X (.Assign [.Tuple tgs kt pt] (.Tuple es k2 pt2) pos) (tS k W (cfOf P n) (.par ts cs)) := by
  obtain ⟨hl, hv, line, hm⟩ := swS_some ho
  match ts, h1 with
  | [], h1 =>
    simp only [chkNs] at h1
    split at h1
    · simp at hl
    · cases h1
  | [(i, wi)], h1 =>
    simp only [chkNs] at h1
    split at h1
    · simp only [Bool.and_eq_true] at h1
      obtain ⟨_, h1⟩ := h1
      split at h1
      · simp at hl
      · cases h1
    · cases h1
  | [(i, wi), (j, wj)], h1 =>
    simp only [chkNs] at h1
    split at h1
    · rename_i x px r
      simp only [Bool.and_eq_true] at h1
      obtain ⟨⟨a1, a2⟩, h1⟩ := h1
      split at h1
      · rename_i y py r2
        simp only [Bool.and_eq_true] at h1
        obtain ⟨⟨b1, b2⟩, h1⟩ := h1
        split at h1
        · match names, hm with
          | [n1, n2], hm =>
            simp only [List.map_cons, List.map_nil, List.cons.injEq, and_true] at hm
            obtain ⟨l1, rfl⟩ := locName_some hm.1
            obtain ⟨l2, rfl⟩ := locName_some hm.2
            match es, cs, h3, hv with
            | [ea, eb], [ta, tb], h3, _ =>
              refine r_par2 g hh (of_decide_eq_true a1) (of_decide_eq_true b1) (fun z => ?_) (by rw [g.sc]; exact l1) (by rw [g.sc]; exact l2) pw hw
              subst z
              simp at h2
            | [_, _], [], h3, _ => cases h3
            | [_, _], [_], h3, _ => simp [chkWs] at h3
            | [_, _], _ :: _ :: _ :: _, h3, _ => simp [chkWs] at h3
          | [], hm => simp at hm
          | [_], hm => simp at hm
          | _ :: _ :: _ :: _, hm => simp at hm
        · cases h1
      · cases h1
    · cases h1
  | [(i, wi), (j, wj), (l, wl)], h1 =>
    simp only [chkNs] at h1
    split at h1
    · rename_i x px r
      simp only [Bool.and_eq_true] at h1
      obtain ⟨⟨a1, a2⟩, h1⟩ := h1
      split at h1
      · rename_i y py r2
        simp only [Bool.and_eq_true] at h1
        obtain ⟨⟨b1, b2⟩, h1⟩ := h1
        split at h1
        · rename_i z pz r3
          simp only [Bool.and_eq_true] at h1
          obtain ⟨⟨c1, c2⟩, h1⟩ := h1
          split at h1
          · match names, hm with
            | [n1, n2, n3], hm =>
              simp only [List.map_cons, List.map_nil, List.cons.injEq, and_true] at hm
              obtain ⟨l1, rfl⟩ := locName_some hm.1
              obtain ⟨l2, rfl⟩ := locName_some hm.2.1
              obtain ⟨l3, rfl⟩ := locName_some hm.2.2
              match es, cs, h3, hv with
              | [ea, eb, ed], [ta, tb, td], h3, _ =>
                simp at h2
                exact r_par3 g hh (of_decide_eq_true a1) (of_decide_eq_true b1) (of_decide_eq_true c1) h2.1.1 h2.1.2 h2.2 (by rw [g.sc]; exact l1) (by rw [g.sc]; exact l2) (by rw [g.sc]; exact l3) pw hw
              | [_, _, _], [], h3, _ => cases h3
              | [_, _, _], [_], h3, _ => simp [chkWs] at h3
              | [_, _, _], [_, _], h3, _ => simp [chkWs] at h3
              | [_, _, _], _ :: _ :: _ :: _ :: _, h3, _ => simp [chkWs] at h3
            | [], hm => simp at hm
            | [_], hm => simp at hm
            | [_, _], hm => simp at hm
            | _ :: _ :: _ :: _ :: _, hm => simp at hm
          · cases h1
        · cases h1
      · cases h1
    · cases h1
  | (i, wi) :: (j, wj) :: (l, wl) :: (m, wm) :: ts, h1 =>
    simp only [chkNs] at h1
    split at h1
    · simp only [Bool.and_eq_true] at h1
      obtain ⟨_, h1⟩ := h1
      split at h1
      · simp only [Bool.and_eq_true] at h1
        obtain ⟨_, h1⟩ := h1
        split at h1
        · simp only [Bool.and_eq_true] at h1
          obtain ⟨_, h1⟩ := h1
          split at h1
          · simp at hl
          · cases h1
        · cases h1
      · cases h1
    · cases h1
mutual
theorem sS : ∀ (s : S) (W : XK) (X : Cx) (st : Stmt), Good k P n c W X → c.sc.kind = .function → chkS P c s st = true → PS X st (tS k W (cfOf P n) s)
  | .asg i t, W, X, st, g, hk, h => by
    simp only [chkS] at h
    split at h
    · simp only [Bool.and_eq_true] at h
      obtain ⟨⟨⟨h1, h2⟩, h3⟩, h4⟩ := h
      rename_i ps
      obtain ⟨⟨te, p1, p2⟩, _⟩ := asg_way (pos := ps) g hk h1 h2 h3 h4
      exact r_asgV p1 p2
    · cases h
  | .own i t, W, X, st, g, hk, h => by
    simp only [chkS] at h
    split at h
    · simp only [Bool.and_eq_true] at h
      obtain ⟨⟨⟨⟨h1, h2⟩, h3⟩, h5⟩, h4⟩ := h
      rename_i ps
      obtain ⟨te, p1, p2⟩ := (asg_way (pos := ps) g hk h1 h2 h3 h4).2 h5
      exact r_own p1 p2
    · cases h
  | .par ts cs, W, X, st, g, hk, h => by
    simp only [chkS] at h
    split at h
    · rename_i tgs kt pt es k2 pt2 pos
      simp only [Bool.and_eq_true, decide_eq_true_eq, Bool.not_eq_true'] at h
      obtain ⟨⟨⟨⟨⟨h1, h2⟩, h3⟩, h4⟩, h5⟩, hh⟩ := h
      obtain ⟨o, ho⟩ := Option.isSome_iff_exists.mp h4
      have hw := swS_ok (env := X.env) (kt := kt) (k2 := k2) (pt := pt) (pt2 := pt2) (by rw [g.sc]; exact hk) (by rw [g.sc]; exact ho)
      have pw := sWs g h3
      cases o with
      | none =>
        obtain ⟨q1, q2, q3⟩ := sNs g h1
        exact r_parG g hh pw q1 h5 q2 q3 hw
      | some names => exact sPar g hh h1 h2 h3 ho hw pw
    · cases h
  | .unp gt t, W, X, st, g, hk, h => by
    simp only [chkS] at h
    split at h
    · rename_i tg e pos
      simp only [Bool.and_eq_true, Bool.not_eq_true'] at h
      obtain ⟨⟨⟨h1, h2⟩, h3⟩, h4⟩ := h
      refine r_unp g.hK (ps_asg (sE t _ c W X e g h4).1 (by rw [g.hK]; exact sG gt _ c W X tg g h3) ?_ ?_ ?_)
      · cases tg <;> first | (cases h1; done) | (cases e <;> first | (cases h2; done) | rfl)
      · cases tg <;> first | (cases h1; done) | (cases e <;> first | (cases h2; done) | rfl)
      · cases tg <;> first | (cases h1; done) | rfl
    · cases h
  | .ret t, W, X, st, g, hk, h => by
    simp only [chkS] at h
    split at h
    · exact r_ret (sE t _ c W X _ g h).1
    · cases h
  | .retn, W, X, st, g, hk, h => by
    simp only [chkS] at h
    split at h
    · exact r_retn
    · cases h
  | .exp t, W, X, st, g, hk, h => by
    simp only [chkS] at h
    split at h
    · simp only [Bool.and_eq_true] at h
      exact r_exp (sE t _ c W X _ g h.2).1 (noComp_ok h.1 _ _ _)
    · cases h
  | .app i t, W, X, st, g, hk, h => by
    simp only [chkS] at h
    split at h
    · simp only [Bool.and_eq_true, decide_eq_true_eq] at h
      obtain ⟨⟨⟨⟨⟨⟨rfl, h1⟩, h2⟩, h3⟩, h4⟩, h5⟩, h6⟩ := h
      exact r_app g (of_decide_eq_true h1) h2 h3 (sE t _ c W X _ g h6).1 h5 h4
    · cases h
  | .ext i t, W, X, st, g, hk, h => by
    simp only [chkS] at h
    split at h
    · simp only [Bool.and_eq_true, decide_eq_true_eq] at h
      obtain ⟨⟨⟨⟨⟨⟨rfl, h1⟩, h2⟩, h3⟩, h4⟩, h5⟩, h6⟩ := h
      exact r_ext g (of_decide_eq_true h1) h2 h3 (tB_all g h6 (sE t _ c W X _ g h6).1) h5 h4
    · cases h
  | .setI i u t, W, X, st, g, hk, h => by
    simp only [chkS] at h
    split at h
    · rename_i x px ei spos e pos
      simp only [Bool.and_eq_true] at h
      obtain ⟨⟨⟨⟨⟨h1, h2⟩, h3⟩, h4⟩, h5⟩, h6⟩ := h
      exact r_setI g (of_decide_eq_true h1) h2 h3 (sE t _ c W X _ g h5).1 (sE u _ c W X _ g h6).1 h4 (by cases e <;> rfl)
    · cases h
  | .frz _, W, X, st, g, hk, h => by cases h
  | .iff t a b, W, X, st, g, hk, h => by
    simp only [chkS] at h
    split at h
    · simp only [Bool.and_eq_true] at h
      exact r_if (sT t _ c W X _ g h.1.1) (sSs a W X _ g hk h.1.2) (sSs b W X _ g hk h.2)
    · cases h
  | .loop t b, W, X, st, g, hk, h => by
    simp only [chkS] at h
    split at h
    · simp only [Bool.and_eq_true] at h
      exact r_loop g (sT t _ c W X _ g h.1) (sSs b W X _ g hk h.2)
    · cases h
  | .for gt it b, W, X, st, g, hk, h => by
    simp only [chkS] at h
    split at h
    · simp only [Bool.and_eq_true, Bool.not_eq_true'] at h
      obtain ⟨⟨⟨⟨h1, h2⟩, h3⟩, h4⟩, hh⟩ := h
      exact r_for g hh (sI it false _ c W X _ _ g h3) (by rw [g.hK]; exact sG gt _ c W X _ g h2) (sSs b W X _ g hk h4) h1
    · cases h
  | .brk, W, X, st, g, hk, h => by
    simp only [chkS] at h
    split at h
    · exact r_brk
    · cases h
  | .cnt, W, X, st, g, hk, h => by
    simp only [chkS] at h
    split at h
    · exact r_cnt
    · cases h
  | .pass, W, X, st, g, hk, h => by
    simp only [chkS] at h
    split at h
    · exact r_pass
    · cases h
  | .never, W, X, st, g, hk, h => r_never
  | .aug i o t, W, X, st, g, hk, h => by
    simp only [chkS] at h
    split at h
    · simp only [Bool.and_eq_true, Bool.or_eq_true, decide_eq_true_eq] at h
      obtain ⟨⟨⟨h1, h2⟩, h3⟩, h4⟩ := h
      exact r_aug g (of_decide_eq_true h1) h2 h3 (sE t _ c W X _ g h4).1
    · cases h
  | .raise x d, W, X, st, g, hk, h => by
    simp only [chkS] at h
    split at h
    · simp only [Bool.and_eq_true, decide_eq_true_eq, Bool.not_eq_true'] at h
      obtain ⟨⟨⟨⟨rfl, h1⟩, h2⟩, h3⟩, hh⟩ := h
      obtain ⟨C, bmB, B, newId, initId, e1, e2, e3, e4, e5, e6⟩ := g.hex _ h3
      exact r_raise0 g hh e1 e2 e3 e4 e5 h1 h2 e6
    · cases h
theorem sSs : ∀ (s : List S) (W : XK) (X : Cx) (st : List Stmt), Good k P n c W X → c.sc.kind = .function → chkSs P c s st = true → PSs X st (tSs k W (cfOf P n) s)
  | [], W, X, st, g, hk, h => by
    simp only [chkSs] at h
    split at h
    · exact r_nil
    · cases h
  | s :: r, W, X, st, g, hk, h => by
    cases s
    case frz i =>
      simp only [chkSs] at h
      exact r_frz (sSs r W X st g hk h)
    all_goals
      simp only [chkSs] at h
      split at h
      · rw [Bool.and_eq_true] at h
        exact r_cons (sS _ W X _ g hk h.1) (sSs r W X _ g hk h.2)
      · cases h
end
end
end Ev
set_option maxHeartbeats 4000000
/-! EvFn: each def keeps the evaluator's word. -/
namespace Ev
open PySem PySem.Spec PyProof.Rows L2
/-- what is true of the written part, whatever the def -/
structure Bd (k : Kx) (P : Pg) (prog : Program) (w : World) (K : PySem.W.Frag) (mg : Str → Option Value) (base : Heap) : Prop where
  hK : K = k.K
  hw : w = k.w
  fl : k.fl = P.fl
  blt : ∀ x ∈ BLT, mg x = none
  gl : ∀ x d, P.gl x = some d → ∃ u v, mg x = some u ∧ RelV v u ∧ ∀ F, Rep k F v d
  objs : ∀ x C, k.cls x = some C → Cls K C ∧ (∀ f ∈ k.fl x, NoAttr K C f)
  objT : ∀ x C, k.cls x = some C → PySem.W.findIn K (.ref C) "__class__" = some (some (.builtin "object.__class__")) ∧ PySem.W.specialIn K (.builtin "object.__class__") "__get__" = some (some (.builtin "getset_descriptor.__get__")) ∧ PySem.W.takesIn K (.builtin "object.__class__") = some true ∧ PySem.W.mroIn K C (.type "object") = some true
  ownN : ∀ x C, k.cls x = some C → tagNames.lookup x = none
  clsG : ∀ x C, k.cls x = some C → mg x = some (.ref C)
  news : ∀ x C, k.cls x = some C → ∃ f fd ps l, Mk K C f ∧ FnOk prog w K mg base (L2.CX prog w) l f fd ps (SpNew k P x C ps) ∧ L2.Binds K fd ps [] ∧ l + 1 ≤ P.nwL ∧ ∀ ds d, P.nw x ds = some d → ds.length + 1 = ps.length ∧ ∃ fs, d = .obj x fs
  hfn : ∀ f, P.fnB f = true → ∃ a, k.fns f = some a
  hcl : ∀ t, P.clB t = true → clsNames.lookup t ≠ none ∨ ∃ C, k.cls t = some C
  hex : ∀ x, P.exB x = true → ∃ C bmB B newId initId, ExcBaseFacts B newId initId bmB ∧ PySem.W.excIn K C bmB newId = true ∧ mg x = some (.ref C) ∧ PySem.W.keepIn K (.ref C) = true ∧ PySem.W.subIn K (.ref C) (.type "BaseException") = some true ∧ PySem.W.typeIn K (.ref C) = some (.type "type") ∧ k.ecl x = some C
  isi : ∀ t u tv uv, tagVal k t = some tv → clsVal k u = some uv → PySem.W.kitOne K tv uv = some (isiT t u)
/-- every def keeps its word at level n -/
def Calls (k : Kx) (P : Pg) (prog : Program) (w : World) (K : PySem.W.Frag) (mg : Str → Option Value) (base : Heap) (n : Nat) : Prop :=
  ∀ f a, k.fns f = some a → ∃ fd ps, FnOk prog w K mg base (L2.CX prog w) n a fd ps (SpEv k P n ps f) ∧ mg f = some (.ref a) ∧ PySem.W.keepIn K (.ref a) = true ∧ L2.Binds K fd ps [] ∧ ∀ ds s, call P n f ds s ≠ none → ds.length = ps.length
/-- a def's text is its core text -/
structure DefOk (k : Kx) (P : Pg) (prog : Program) (w : World) (K : PySem.W.Frag) (mg : Str → Option Value) (base : Heap) (wo : Bool) (f : Str) (a : Addr) (qual : Str) (params : Arguments) (body : List Stmt) (scope : Scope) (fd : FuncData) (ps N : List Str) (fn : Fn) : Prop where
  fns : P.fns f = some fn
  prim : P.prim f = none
  fdd : FunD K f qual params body scope [] [] a fd
  sc : FnScope N ps scope
  chk : chkSs P ⟨N, scope, fun _ => true, wo, false, [], ""⟩ fn.body body = true
  wd : wo = true → ∀ (oc dV kV doc pm cdv ct : Value) (an od : Option Addr) (osl : Array (Option Value)), K.lookup a = some ⟨oc, od, .func (PySem.W.fnOf f qual params body scope dV kV doc pm an cdv ct), osl⟩ →
    ∀ X : Cx, X.prog = prog → X.w = w → X.K = K → X.mg = mg → X.base = base → X.env.code = cdv → X.env.qual = qual ++ ".<locals>." → Room P.nwL X.A → WdOk k P X
  par : fn.par = ps.length
  slots : fn.slots = N.length
  mgg : mg f = some (.ref a)
  bs : L2.Binds K fd ps []
/-- a def told by hand -/
structure PrimOk (k : Kx) (P : Pg) (prog : Program) (w : World) (K : PySem.W.Frag) (mg : Str → Option Value) (base : Heap) (f : Str) (a : Addr) (l : Nat) (p : List D → St → Out D) (fd : FuncData) (ps : List Str) : Prop where
  prim : P.prim f = some (l, p)
  ok : FnOk prog w K mg base (L2.CX prog w) l a fd ps (fun vs H Q E => vs.length = ps.length ∧ ∃ F s ds, Same F H ∧ HandOk k F H s ∧ Reps k F vs ds ∧ Post k E F H s (p ds s) fun d _ F' H' => ∀ v, Rep k F' v d → Q v H')
  mgg : mg f = some (.ref a)
  kp : PySem.W.keepIn K (.ref a) = true
  bs : L2.Binds K fd ps []
  ar : ∀ ds s, p ds s ≠ none → ds.length = ps.length
section
variable {k : Kx} {P : Pg} {prog : Program} {w : World} {K : PySem.W.Frag} {mg : Str → Option Value} {base : Heap}
/-- a def's context is good -/
theorem Bd.good (b : Bd k P prog w K mg base) {n : Nat} (hn : P.nwL ≤ n) (cs : ∀ m, m ≤ n → Calls k P prog w K mg base m) {N ps : List Str} {qual : Str} {scope : Scope} {f : Addr} {cdv : Value} {A : Around} {outer : List PySem.Env} {s : Shared} {H : Hp} {E : XK}
    (wo : Bool) (S : FnScope N ps scope) (hwd : wo = true → WdOk k P (cxOf (L2.CX prog w) prog w K mg base N qual scope f cdv A outer s H E)) (hr : Room n (A.deeper (envOfC qual scope s.heap.objs.size f cdv))) : Good k P n ⟨N, scope, fun _ => true, wo, false, [], ""⟩ E (cxOf (L2.CX prog w) prog w K mg base N qual scope f cdv A outer s H E) where
  hK := b.hK
  hw := b.hw
  hN := rfl
  nd := S.nd
  sc := rfl
  fn := rfl
  calm := fun _ => rfl
  exI := fun _ _ _ _ _ _ _ _ h => by cases h
  po := passes_of rfl
  room := fun _ => hr
  u65 := Room.u65 hr
  tk := takes_of rfl rfl rfl rfl
  fl := b.fl
  blt := b.blt
  gl := b.gl
  calls := cs
  objs := b.objs
  objT := b.objT
  ownN := b.ownN
  clsG := b.clsG
  news := b.news
  hnl := hn
  wds := hwd
  hfn := b.hfn
  hcl := b.hcl
  hex := fun x h => by
    obtain ⟨C, bmB, B, newId, initId, e1, e2, e3, e4, e5, e6, e7⟩ := b.hex x h
    exact ⟨C, bmB, B, newId, initId, e1, e2, e3, e4, raises_own e5 e6, e7⟩
  isi := b.isi
theorem start_ok {F H : Hp} {s : St} {N : List Str} {vs : List V} {ds : List D} (fh : Same F H) (hd : HandOk k F H s) (r : Reps k F vs ds) (hl : vs.length ≤ N.length) : EnvOk k ⟨F, H, s, F⟩ F H (L2.start N vs) (startE N.length ds) s := by
  have len := r.length
  refine ⟨Ext.refl fh hd, Same.refl _, ?_, fun _ => 0, fun i => ?_, fun i j _ o _ => ?_, fun i o => ?_⟩
  · simp [L2.start, startE, len]
  · unfold L2.start startE
    by_cases h : i < vs.length
    · obtain ⟨d, e1, e2⟩ := r.getV (i := i) (v := vs[i]) (List.getElem?_eq_getElem h)
      rw [List.getElem?_append_left (by simpa using h), List.getElem?_map, List.getElem?_eq_getElem h, at_append, if_pos (by simp; omega)]
      have : Env.at (ds.map Sl.v) i = .v d := by
        unfold Env.at
        rw [List.getD_eq_getElem?_getD, List.getElem?_map, e1]
        rfl
      rw [this]
      exact e2
    · rw [at_append, if_neg (by simp; omega)]
      have : ∀ (m j : Nat), Env.at (List.replicate m Sl.no) j = .no := fun m j => by
        unfold Env.at
        rw [List.getD_eq_getElem?_getD, List.getElem?_replicate]
        split <;> rfl
      rw [this]
      trivial
  all_goals
    exfalso
    revert o
    unfold startE
    rw [at_append]
    split
    · rename_i h
      intro o
      have hi : i < ds.length := by simpa using h
      have : Env.at (ds.map Sl.v) i = .v ds[i] := by
        unfold Env.at
        rw [List.getD_eq_getElem?_getD, List.getElem?_map, List.getElem?_eq_getElem hi]
        rfl
      rw [this] at o
      cases o
    · intro o
      have : ∀ (m j : Nat), Env.at (List.replicate m Sl.no) j = .no := fun m j => by
        unfold Env.at
        rw [List.getD_eq_getElem?_getD, List.getElem?_replicate]
        split <;> rfl
      rw [this] at o
      cases o
theorem DefOk.ok {wo : Bool} (b : Bd k P prog w K mg base) {n : Nat} (hn : P.nwL ≤ n) (cs : ∀ m, m ≤ n → Calls k P prog w K mg base m) {f : Str} {a : Addr} {qual : Str} {params : Arguments} {body : List Stmt} {scope : Scope} {fd : FuncData} {ps N : List Str} {fn : Fn} (d : DefOk k P prog w K mg base wo f a qual params body scope fd ps N fn) :
    FnOk prog w K mg base (L2.CX prog w) (n + 1) a fd ps (SpEv k P (n + 1) ps f) := by
  obtain ⟨oc, od, dV, kV, doc, pm, an, cdv, ct, osl, rfl, lk, hcd, _, _⟩ := d.fdd.ex
  refine fn_of lk hcd d.sc (fun vs H Q E h => h.1) fun A outer s H vs Q E hr ⟨hl, F, st, ds, fh, hd, r, q⟩ => ?_
  have g := b.good (outer := outer) (H := H) (E := E) hn cs wo d.sc (fun z => d.wd z oc dV kV doc pm cdv ct an od osl lk _ rfl rfl rfl rfl rfl rfl rfl (Room.mono hr hn)) hr
  refine ⟨_, sSs fn.body E _ body g d.sc.kind d.chk, ⟨F, H, st, F⟩, F, startE N.length ds, st, ?_, ?_⟩
  · refine start_ok fh hd r ?_
    have := congrArg List.length d.sc.pre
    rw [List.length_take] at this
    omega
  · rw [call_succ] at q
    unfold lvl at q
    simp only [d.prim, d.fns, if_pos hn] at q
    unfold runFn at q
    have hp : ds.length = fn.par := by rw [d.par, ← hl, r.length]
    rw [if_pos hp, d.slots] at q
    have q : Post k E F H st (bnd (evSs (cfOf P n) fn.body (startE N.length ds) st) fun r s => match r with
      | .nx _ => Ev.ok Ev.D.non s
      | .ret _ d => Ev.ok d s
      | _ => none) fun d _ F' H' => ∀ v, Rep k F' v d → Q v H' := q
    revert q
    generalize evSs (cfOf P n) fn.body (startE N.length ds) st = o
    intro q
    match o, q with
    | some (.ex e, s'), q => exact q
    | some (.ok (.nx ρ), s'), q => exact fun F' H' σ' ok => q F' H' ok.ext _ .non
    | some (.ok (.ret ρ d), s'), q => exact fun F' H' σ' v ok r => q F' H' ok.ext v r
/-- all defs, at every level -/
theorem calls_upto (b : Bd k P prog w K mg base) (hd : ∀ f a, k.fns f = some a → (∃ wo qual params body scope fd ps N fn, DefOk k P prog w K mg base wo f a qual params body scope fd ps N fn) ∨ ∃ l p fd ps, PrimOk k P prog w K mg base f a l p fd ps) : ∀ n m, m ≤ n → Calls k P prog w K mg base m
  | _, 0, _, f, a, h => by
    rcases hd f a h with ⟨wo, qual, params, body, scope, fd, ps, N, fn, d⟩ | ⟨l, p, fd, ps, d⟩
    · exact ⟨fd, ps, ⟨fun vs H Q E h => h.1, fun A outer s H args us vs Q E _ _ _ _ ⟨_, F, s', ds, _, _, _, q⟩ => q.elim⟩, d.mgg, d.fdd.kp, d.bs, fun ds s z => absurd rfl z⟩
    · exact ⟨fd, ps, ⟨fun vs H Q E h => h.1, fun A outer s H args us vs Q E _ _ _ _ ⟨_, F, s', ds, _, _, _, q⟩ => q.elim⟩, d.mgg, d.kp, d.bs, fun ds s z => absurd rfl z⟩
  | 0, n + 1, hm, f, a, h => by omega
  | M + 1, n + 1, hm, f, a, h => by
    rcases hd f a h with ⟨wo, qual, params, body, scope, fd, ps, N, fn, d⟩ | ⟨l, p, fd, ps, d⟩
    · have ar : ∀ ds s, call P (n + 1) f ds s ≠ none → ds.length = ps.length ∧ P.nwL ≤ n := fun ds s z => by
        rw [call_succ] at z
        unfold lvl at z
        simp only [d.prim, d.fns] at z
        by_cases hn : P.nwL ≤ n
        · rw [if_pos hn] at z
          unfold runFn at z
          by_cases hp : ds.length = fn.par
          · exact ⟨by rw [hp, d.par], hn⟩
          · rw [if_neg hp] at z; exact absurd rfl z
        · rw [if_neg hn] at z; exact absurd rfl z
      refine ⟨fd, ps, ?_, d.mgg, d.fdd.kp, d.bs, fun ds s z => (ar ds s z).1⟩
      by_cases hn : P.nwL ≤ n
      · exact d.ok b hn fun m hm' => calls_upto b hd M m (by omega)
      · refine ⟨fun vs H Q E h => h.1, fun A outer s H args us vs Q E _ _ _ _ ⟨_, F, s', ds, _, _, _, q⟩ => ?_⟩
        cases hc : call P (n + 1) f ds s' with
        | none => rw [hc] at q; exact q.elim
        | some o => exact absurd (ar ds s' (by rw [hc]; simp)).2 hn
    · refine ⟨fd, ps, ?_, d.mgg, d.kp, d.bs, fun ds s z => ?_⟩
      · by_cases hl : l ≤ n + 1
        · refine (d.ok.mono hl).imp fun vs H Q E ⟨h1, F, s, ds, fh, hd', r, q⟩ => ⟨h1, F, s, ds, fh, hd', r, ?_⟩
          rw [call_succ] at q
          unfold lvl at q
          simp only [d.prim, if_pos hl] at q
          exact q
        · refine ⟨fun vs H Q E h => h.1, fun A outer s H args us vs Q E _ _ _ _ ⟨_, F, s', ds, _, _, _, q⟩ => ?_⟩
          rw [call_succ] at q
          unfold lvl at q
          simp only [d.prim, if_neg hl] at q
          exact q.elim
      · rw [call_succ] at z
        unfold lvl at z
        simp only [d.prim] at z
        by_cases hl : l ≤ n + 1
        · rw [if_pos hl] at z; exact d.ar ds s z
        · rw [if_neg hl] at z; exact absurd rfl z
theorem calls_all (b : Bd k P prog w K mg base) (hd : ∀ f a, k.fns f = some a → (∃ wo qual params body scope fd ps N fn, DefOk k P prog w K mg base wo f a qual params body scope fd ps N fn) ∨ ∃ l p fd ps, PrimOk k P prog w K mg base f a l p fd ps) (n : Nat) : Calls k P prog w K mg base n := calls_upto b hd n n (Nat.le_refl n)
end
end Ev
set_option maxHeartbeats 4000000
/-! EvPin: statements, a slot's own value told beside (a parameter that is changed). -/
namespace Ev
open PySem PySem.Spec PyProof.Rows L2
section
variable {k : Kx} {W : XK} {B : Bs} {Z : L2.St → Prop}
def PostZ (k : Kx) (W : XK) (B : Bs) (Z : L2.St → Prop) (D : Ends) (o : Out Fl) : Prop := match o with
  | some (.ok (.nx ρ), s') => ∀ F' H' σ', Z σ' → EnvOk k B F' H' σ' ρ s' → D.nx σ' H'
  | some (.ok (.ret ρ d), s') => ∀ F' H' σ' v, Z σ' → EnvOk k B F' H' σ' ρ s' → Rep k F' v d → D.rt v H'
  | some (.ex e, s') => ∀ F' H' cls dd, Ext k B.F B.H B.s F' H' s' → ExcOk k F' H' e cls dd → W cls dd H'
  | _ => False
theorem PostZ.bnd {α : Type} {D : Ends} {x : Out α} {f : α → St → Out Fl} {F H : Hp} {σ : L2.St} {ρ : Env} {s : St} (ok : EnvOk k B F H σ ρ s) (p : PostZ k W B Z D (Ev.bnd x f)) : Post k W F H s x fun a s1 _ _ => PostZ k W B Z D (f a s1) := by
  match x, p with
  | some (.ok a, s1), p => exact fun F1 H1 E => p
  | some (.ex e, s1), p => exact fun F' H' cls dd E q => p F' H' cls dd (ok.ext.trans E) q
end
def tZ (k : Kx) (W : XK) (Y : Cf) (Z : L2.St → Prop) (t : S) : TS := fun D σ H => ∃ B F ρ s, Z σ ∧ EnvOk k B F H σ ρ s ∧ PostZ k W B Z D (evS Y t ρ s)
def tZs (k : Kx) (W : XK) (Y : Cf) (Z : L2.St → Prop) (t : List S) : TS := fun D σ H => ∃ B F ρ s, Z σ ∧ EnvOk k B F H σ ρ s ∧ PostZ k W B Z D (evSs Y t ρ s)
section
variable {k : Kx} {P : Pg} {n : Nat} {c : Ck} {W : XK} {X : Cx} {Y : Cf} {Z : L2.St → Prop}
theorem z_nil : PSs X [] (tZs k W Y Z []) := by
  refine PSsw pss_nil fun D σ H ⟨B, F, ρ, s, z, ok, q⟩ => ?_
  have q : PostZ k W B Z D (Ev.ok (Fl.nx ρ) s) := q
  exact q F H σ z ok
theorem z_cons {t : S} {r : List S} {st : Stmt} {rest : List Stmt} (h1 : PS X st (tZ k W Y Z t)) (h2 : PSs X rest (tZs k W Y Z r)) : PSs X (st :: rest) (tZs k W Y Z (t :: r)) := by
  refine PSsw (pss_cons h1 h2) fun D σ H ⟨B, F, ρ, s, z, ok, q⟩ => ⟨B, F, ρ, s, z, ok, ?_⟩
  have q : PostZ k W B Z D (bnd (evS Y t ρ s) fun f s => match f with
    | .nx ρ' => evSs Y r ρ' s
    | f => Ev.ok f s) := q
  revert q
  generalize evS Y t ρ s = x
  intro q
  match x, q with
  | some (.ok (.nx ρ), s), p => exact fun F' H' σ' z ok => ⟨B, F', ρ, s, z, ok, p⟩
  | some (.ok (.ret ρ d), s), p => exact p
  | some (.ex e, s), p => exact p
theorem z_ret {t : C} {e : Expr} {pos : Pos} (p : PE X e (tE k W Y t)) : PS X (.Return (some e) pos) (tZ k W Y Z (.ret t)) := by
  refine PSw (ps_ret p) fun D σ H ⟨B, F, ρ, s, z, ok, q⟩ => ⟨B, F, ρ, s, ok, ?_⟩
  have q : PostZ k W B Z D (bnd (evE Y t ρ s) fun d s => Ev.ok (Fl.ret ρ d) s) := by simpa only [evS] using q
  exact (PostZ.bnd ok q).mono fun d s1 F1 H1 E1 q v r => q F1 H1 σ v z (ok.next E1) r
theorem z_if {t : T} {a b : List S} {e : Expr} {sa sb : List Stmt} {pos : Pos} (pt : PT X e (tT k W Y t)) (pa : PSs X sa (tZs k W Y Z a)) (pb : PSs X sb (tZs k W Y Z b)) : PS X (.If e sa sb pos) (tZ k W Y Z (.iff t a b)) := by
  refine PSw (ps_if pt pa pb) fun D σ H ⟨B, F, ρ, s, z, ok, q⟩ => ⟨B, F, ρ, s, ok, ?_⟩
  have q : PostZ k W B Z D (bnd (evT Y t ρ s) fun c s => if c = true then evSs Y a ρ s else evSs Y b ρ s) := by simpa only [evS] using q
  refine (PostZ.bnd ok q).mono fun b s1 F1 H1 E1 q => ?_
  cases b with
  | true => exact ⟨B, F1, ρ, s1, z, ok.next E1, q⟩
  | false => exact ⟨B, F1, ρ, s1, z, ok.next E1, q⟩
theorem z_asg {i : Nat} {t : C} {st : Stmt} (p : PS X st (tAsg (tE k W Y t) (gName i))) (hz : ∀ σ v, Z σ → Z (σ.set i (some v))) : PS X st (tZ k W Y Z (.asg i t)) := by
  refine PSw p fun D σ H ⟨B, F, ρ, s, z, ok, q⟩ => ⟨B, F, ρ, s, ok, ?_⟩
  have q : PostZ k W B Z D (bnd (evE Y t ρ s) fun d s => Ev.ok (Fl.nx (ρ.set i (.v d))) s) := by simpa only [evS] using q
  exact (PostZ.bnd ok q).mono fun d s1 F1 H1 E1 q v r => q F1 H1 _ (hz σ v z) ((ok.next E1).putv i r)
theorem z_setI (g : Good k P n c W X) {i : Nat} {x : Str} {t u : C} {e ei : Expr} {px spos pos : Pos} (h1 : c.N[i]? = some x) (h2 : visB c x = true) (h3 : okN x = true) (pe : PE X e (tE k W Y t)) (pi : PE X ei (tE k W Y u)) (hp : plainB ei = true) :
    PS X (.Assign [.Subscript (.Name x px) ei spos] e pos) (tZ k W Y Z (.setI i u t)) := by
  have pv : PE X (.Name x px) (tVar i) := pe_var (by rw [g.hN]; exact h1) (g.vis h2) (okN_d h3).1 (okN_d h3).2.1
  refine PSw (ps_asg pe (pg_sub pv pi (set_or set_list (set_N g.hK g.hw (g.u65))) (by cases ei <;> first | (intro _; rfl) | cases hp)) (by cases e <;> rfl) (by cases e <;> rfl) (by rfl)) fun D σ H ⟨B, F, ρ, s, z, ok, q⟩ => ⟨B, F, ρ, s, ok, ?_⟩
  simp only [evS] at q
  have q := PostZ.bnd ok q
  revert q
  generalize evE Y t ρ s = o
  intro q
  match o, q with
  | some (.ex e, s'), q => exact q
  | some (.ok d, s1), q =>
    intro F1 H1 E1 v r
    have q := q F1 H1 E1
    have ok1 := ok.next E1
    cases hi : ρ.at i with
    | no => rw [hi] at q; exact q.elim
    | v d => rw [hi] at q; exact q.elim
    | own d0 =>
      obtain ⟨p, o, e1, e2, e3⟩ := own_at ok1 hi
      cases d0 <;> first | (rw [hi] at q; exact q.elim) | skip
      case lst ds =>
        rw [hi] at q
        have q : PostZ k W B Z D (bnd (evE Y u ρ s1) fun j s => match j with
          | .int j => (match ixD ds.length j with
            | some n => Ev.ok (.nx (ρ.set i (.own (.lst (ds.set n d))))) s
            | none => none)
          | _ => none) := q
        refine ⟨_, e1, B, F1, ρ, s1, ok1, ?_⟩
        refine (PostZ.bnd ok1 q).mono fun dj s2 F2 H2 E2 q w rw' => ?_
        obtain ⟨p', o', f1, f2, ⟨ys, rfl, f3⟩, f4, f5, f6⟩ := (ok1.next E2).mut hi
        rw [e1] at f1
        cases f1
        cases dj <;> first | exact q.elim | skip
        rename_i j
        rw [rep_int rw']
        cases hx : ixD ds.length j with
        | none => simp only [hx] at q; exact q.elim
        | some m =>
          simp only [hx] at q
          exact .inl ⟨p, ys, j, m, rfl, rfl, f2, by rw [ix_eq f3.length]; exact hx, q F2 _ _ z (f6 _ _ ⟨_, rfl, f3.set (Rep.mono E2.ff r) m⟩)⟩
      case dct kvs =>
        rw [hi] at q
        have q : PostZ k W B Z D (bnd (evE Y u ρ s1) fun j s => if (nkT j).isSome = true ∧ kvs.length < lim then Ev.ok (.nx (ρ.set i (.own (.dct (dPut kvs j d))))) s else none) := q
        refine ⟨_, e1, B, F1, ρ, s1, ok1, ?_⟩
        refine (PostZ.bnd ok1 q).mono fun dj s2 F2 H2 E2 q w rw' => ?_
        obtain ⟨p', o', f1, f2, ⟨kas, rfl, f3⟩, f4, f5, f6⟩ := (ok1.next E2).mut hi
        rw [e1] at f1
        cases f1
        by_cases hg : (nkT dj).isSome = true ∧ kvs.length < lim
        · rw [if_pos hg] at q
          obtain ⟨x, hx⟩ := Option.isSome_iff_exists.mp hg.1
          have hl : kas.length = kvs.length := f3.len
          cases rw' <;> first | (cases hx; done) | skip
          rename_i b xs es h1 h2
          exact .inr ⟨F2, p, kas, kvs, _, d, x, b, E2.fh, rfl, f2, f3, rfl, .tup h1 h2, hx, by rw [hl]; exact Nat.lt_of_lt_of_le hg.2 (by decide), Rep.mono E2.ff r, q F2 _ _ z (f6 _ _ ⟨_, rfl, putN_rep hx (.tup h1 h2) (Rep.mono E2.ff r) f3⟩)⟩
        · rw [if_neg hg] at q
          exact q.elim
end
mutual
def chkZ (P : Pg) (c : Ck) : S → Stmt → Bool
  | .asg i t, st => match st with
    | .Assign [.Name x _] e _ => (i != 0) && nmB c i x && locB c x && noComp e && chkE P c t e
    | _ => false
  | .setI i u t, st => match st with
    | .Assign [.Subscript (.Name x _) ei _] e _ => nmB c i x && visB c x && okN x && plainB ei && chkE P c t e && chkE P c u ei
    | _ => false
  | .ret t, st => match st with
    | .Return (some e) _ => chkE P c t e
    | _ => false
  | .iff t a b, st => match st with
    | .If e sa sb _ => chkT P c t e && chkZs P c a sa && chkZs P c b sb
    | _ => false
  | _, _ => false
def chkZs (P : Pg) (c : Ck) : List S → List Stmt → Bool
  | [], sts => match sts with
    | [] => true
    | _ => false
  | s :: r, sts => match sts with
    | st :: sts => chkZ P c s st && chkZs P c r sts
    | _ => false
end
section
variable {k : Kx} {P : Pg} {n : Nat} {c : Ck} {W : XK} {X : Cx} {Z : L2.St → Prop}
mutual
theorem sZ (hz : ∀ (i : Nat) σ v, i ≠ 0 → Z σ → Z (σ.set i (some v))) : ∀ (s : S) (W : XK) (X : Cx) (st : Stmt), Good k P n c W X → chkZ P c s st = true → PS X st (tZ k W (cfOf P n) Z s)
  | .asg i t, W, X, st, g, h => by
    simp only [chkZ] at h
    split at h
    · simp only [Bool.and_eq_true, bne_iff_ne] at h
      obtain ⟨⟨⟨⟨h1, h2⟩, h3⟩, h4⟩, h5⟩ := h
      exact z_asg (ps_set (by rw [g.hN]; exact g.nd) (by rw [g.hN]; exact of_decide_eq_true h2) (g.loc h3).1 (sE t _ c W X _ g h5).1 (noComp_ok h4 _ _ _) (g.loc h3).2) fun σ v => hz i σ v h1
    · cases h
  | .setI i u t, W, X, st, g, h => by
    simp only [chkZ] at h
    split at h
    · simp only [Bool.and_eq_true] at h
      obtain ⟨⟨⟨⟨⟨h1, h2⟩, h3⟩, h4⟩, h5⟩, h6⟩ := h
      exact z_setI g (of_decide_eq_true h1) h2 h3 (sE t _ c W X _ g h5).1 (sE u _ c W X _ g h6).1 h4
    · cases h
  | .ret t, W, X, st, g, h => by
    simp only [chkZ] at h
    split at h
    · exact z_ret (sE t _ c W X _ g h).1
    · cases h
  | .iff t a b, W, X, st, g, h => by
    simp only [chkZ] at h
    split at h
    · simp only [Bool.and_eq_true] at h
      exact z_if (sT t _ c W X _ g h.1.1) (sZs hz a W X _ g h.1.2) (sZs hz b W X _ g h.2)
    · cases h
  | .own _ _, W, X, st, g, h => by cases h
  | .par _ _, W, X, st, g, h => by cases h
  | .unp _ _, W, X, st, g, h => by cases h
  | .retn, W, X, st, g, h => by cases h
  | .exp _, W, X, st, g, h => by cases h
  | .app _ _, W, X, st, g, h => by cases h
  | .ext _ _, W, X, st, g, h => by cases h
  | .frz _, W, X, st, g, h => by cases h
  | .loop _ _, W, X, st, g, h => by cases h
  | .for _ _ _, W, X, st, g, h => by cases h
  | .brk, W, X, st, g, h => by cases h
  | .cnt, W, X, st, g, h => by cases h
  | .pass, W, X, st, g, h => by cases h
  | .never, W, X, st, g, h => by cases h
  | .aug _ _ _, W, X, st, g, h => by cases h
  | .raise _ _, W, X, st, g, h => by cases h
theorem sZs (hz : ∀ (i : Nat) σ v, i ≠ 0 → Z σ → Z (σ.set i (some v))) : ∀ (s : List S) (W : XK) (X : Cx) (st : List Stmt), Good k P n c W X → chkZs P c s st = true → PSs X st (tZs k W (cfOf P n) Z s)
  | [], W, X, st, g, h => by
    simp only [chkZs] at h
    split at h
    · exact z_nil
    · cases h
  | s :: r, W, X, st, g, h => by
    simp only [chkZs] at h
    split at h
    · rw [Bool.and_eq_true] at h
      exact z_cons (sZ hz s W X _ g h.1) (sZs hz r W X _ g h.2)
    · cases h
end
end
end Ev
set_option maxHeartbeats 4000000
/-! EvDraw: the draw, told by the evaluator with the hand's list as its own. -/
namespace Ev
open PySem PySem.Spec PyProof.Rows L2
def N_draw : List PySem.Str := ["hand", "many", "number", "cell", "digit"]
def S_draw : List S := [.iff (.all [(.e (.cmp .eq (.sub (.var 0) (.int 2)) (.int 0))), (.e (.cmp .lt (.sub (.var 0) (.int 1)) (.blt .len [(.sub (.var 0) (.int 0))])))]) [.asg 3 (.sub (.sub (.var 0) (.int 0)) (.sub (.var 0) (.int 1))), .setI 0 (.int 1) (.bin .add (.sub (.var 0) (.int 1)) (.int 1)), .setI 0 (.int 3) (.bin .mod (.blt .int [(.bin .add (.bin .add (.bin .mul (.sub (.var 0) (.int 3)) (.int 69621)) (.var 3)) (.int 181))]) (.int 2147483629)), .iff (.e (.cmp .ge (.var 3) (.bin .pow (.int 10) (.int 18)))) [.setI 0 (.int 2) (.var 3)] []] [], .iff (.e (.cmp .gt (.sub (.var 0) (.int 2)) (.int 0))) [.asg 4 (.bin .mod (.blt .int [(.sub (.var 0) (.int 2))]) (.var 1)), .setI 0 (.int 2) (.bin .fdiv (.sub (.var 0) (.int 2)) (.var 1)), .ret (.var 4)] [], .setI 0 (.int 4) (.bin .add (.sub (.var 0) (.int 4)) (.int 1)), .asg 2 (.bin .mod (.blt .int [(.bin .mul (.blt .int [(.bin .add (.sub (.var 0) (.int 3)) (.bin .mul (.int 7919) (.sub (.var 0) (.int 4))))]) (.int 48271))]) (.int 2147483647)), .asg 2 (.bin .mod (.blt .int [(.bin .mul (.var 2) (.bin .add (.bin .fdiv (.var 2) (.int 1009)) (.int 69621)))]) (.int 2147483647)), .asg 2 (.bin .mod (.blt .int [(.bin .mul (.var 2) (.bin .add (.bin .fdiv (.var 2) (.int 2003)) (.int 40692)))]) (.int 2147483399)), .ret (.bin .mod (.blt .int [(.bin .fdiv (.var 2) (.int 16))]) (.var 1))]
/-- no defs, no classes -/
def P0 : Pg := { fns := fun _ => none, prim := fun _ => none, gl := fun _ => none, fl := fun _ => [], fnB := fun _ => false, clB := fun _ => false, exB := fun _ => false, nwL := 0, nw := fun _ _ => none, wrd := fun _ => none }
def K0 (k : Kx) : Kx := { k with cls := fun _ => none, ecl := fun _ => none, fns := fun _ => none, fl := fun _ => [] }
def handD (h : Hand) : D := .lst [.lst (h.cells.map .int), .int h.i, .int h.a, .int h.b, .int h.c]
def rho0 (h : Hand) (m : Int) : Env := [.own (handD h), .v (.int m), .no, .no, .no]
/-- the hand out of the slot -/
def handOf : Sl → Option Hand
  | .own (.lst [.lst cs, .int i, .int a, .int b, .int c]) => (intsD cs).map fun cells => ⟨cells, i, a, b, c⟩
  | _ => none
noncomputable def drawR (h : Hand) (m : Int) : Option (Int × Hand) := match evSs (cfOf P0 0) S_draw (rho0 h m) none with
  | some (.ok (.ret ρ (.int d)), _) => (handOf (ρ.at 0)).map fun h' => (d, h')
  | _ => none
noncomputable def drawP (ds : List D) (s : St) : Out D := match ds, s with
  | [.hand, .int m], some h => match drawR h m with
    | some (d, h') => some (.ok (.int d), some h')
    | none => none
  | _, _ => none
theorem kit_all : ∀ p ∈ tagNames, ∀ q ∈ clsNames, kitB p.2 q.2 = some (isiT p.1 q.1) := by decide +kernel
theorem bd0 {k : Kx} {prog : Program} {w : World} {K : PySem.W.Frag} {mg : Str → Option Value} {base : Heap} (hK : K = k.K) (hw : w = k.w) (blt : ∀ x ∈ BLT, mg x = none) : Bd (K0 k) P0 prog w K mg base where
  hK := hK
  hw := hw
  fl := rfl
  blt := blt
  gl := fun _ _ h => by cases h
  objs := fun _ _ h => by cases h
  objT := fun _ _ h => by cases h
  ownN := fun _ _ h => by cases h
  clsG := fun _ _ h => by cases h
  news := fun _ _ h => by cases h
  hfn := fun _ h => by cases h
  hcl := fun _ h => by cases h
  hex := fun _ h => by cases h
  isi := fun t u tv uv h1 h2 => by
    unfold tagVal at h1
    unfold clsVal at h2
    cases e1 : tagNames.lookup t with
    | none => rw [e1] at h1; cases h1
    | some a =>
      cases e2 : clsNames.lookup u with
      | none => rw [e2] at h2; cases h2
      | some b =>
        rw [e1] at h1
        rw [e2] at h2
        cases h1
        cases h2
        exact kit_ty (kit_all _ (PySem.mem_of_lookup e1) _ (PySem.mem_of_lookup e2))
/-- the heap but the hand's list -/
def noHand (k : Kx) (H : Hp) : Hp := fun b => if b = k.ha then none else H b
theorem ints_back {k : Kx} {F : Hp} : ∀ {cs : List D} {ns : List Int} {vs : List V}, Reps k F vs cs → intsD cs = some ns → vs = ns.map V.int := fun r e => reps_ints r e
theorem draw_ok {k : Kx} {prog : Program} {w : World} {K : PySem.W.Frag} {mg : Str → Option Value} {base : Heap} {qual : Str} {params : Arguments} {body : List Stmt} {scope : Scope} {a : Addr} {fd : FuncData} (hK : K = k.K) (hw : w = k.w) (blt : ∀ x ∈ BLT, mg x = none)
    (FD : FunD K "_law_draw" qual params body scope [] [] a fd) (S : FnScope N_draw ["hand", "many"] scope) (hc : chkZs P0 ⟨N_draw, scope, fun _ => true, false, false, [], ""⟩ S_draw body = true) :
    FnOk prog w K mg base (L2.CX prog w) 1 a fd ["hand", "many"] (fun vs H Q E => vs.length = (["hand", "many"] : List Str).length ∧ ∃ F s ds, Same F H ∧ HandOk k F H s ∧ Reps k F vs ds ∧ Post k E F H s (drawP ds s) fun d _ F' H' => ∀ v, Rep k F' v d → Q v H') := by
  refine FD.ok S (fun vs H Q E h => h.1) fun cdv A outer s0 H vs Q E hr ⟨_, F, st, ds, fh, hd, r, q⟩ => ?_
  have g := (bd0 (k := k) (prog := prog) (base := base) hK hw blt).good (n := 0) (outer := outer) (H := H) (E := E) (Nat.le_refl 0) (fun m _ f a h => by cases h) false S (fun z => by cases z) hr
  have hp : ∃ m h d h', ds = [.hand, .int m] ∧ st = some h ∧ drawR h m = some (d, h') := by
    unfold drawP at q
    split at q
    · split at q
      · rename_i e; exact ⟨_, _, _, _, rfl, rfl, e⟩
      · exact q.elim
    · exact q.elim
  obtain ⟨m, h, d, h', rfl, rfl, hR⟩ := hp
  have q : Post k E F H (some h) (match drawR h m with
    | some (d, h') => some (.ok (.int d), some h')
    | none => none) (fun d _ F' H' => ∀ v, Rep k F' v d → Q v H') := q
  rw [hR] at q
  have q : ∀ F' H', Ext k F H (some h) F' H' (some h') → ∀ v, Rep k F' v (.int d) → Q v H' := q
  cases r with
  | cons r1 r2 =>
    cases r2 with
    | cons r2 r3 =>
      cases r3
      cases r1
      rw [rep_int r2]
      obtain ⟨t1, t2⟩ := hd
      obtain ⟨f1, hcl, f2, f3⟩ := t2 h rfl
      have hz : ∀ (i : Nat) (σ : L2.St) (v : V), i ≠ 0 → σ[0]? = some (some (V.ref k.ha)) → (σ.set i (some v))[0]? = some (some (V.ref k.ha)) := fun i σ v n z => by
        rw [List.getElem?_set_ne n]; exact z
      have noH : ∀ b, b ≠ k.ha → noHand k H b = H b := fun b n => by unfold noHand; rw [if_neg n]
      have atH : noHand k H k.ha = none := by unfold noHand; rw [if_pos rfl]
      have ntH : ∀ b, nt (noHand k H) b ≠ none → nt H b ≠ none := fun b z => by
        by_cases e : b = k.ha
        · rw [e, nt_none atH] at z; exact absurd rfl z
        · unfold nt at z ⊢
          rw [noH b e] at z
          exact z
      refine ⟨_, sZs (Z := fun σ => σ[0]? = some (some (V.ref k.ha))) hz S_draw E _ body g hc, ⟨F, noHand k H, none, F⟩, F, rho0 h m, none, rfl, ⟨⟨Same.refl _, fh, fun p o z _ _ => ?_, ntH, fun _ _ z => z, rfl, ⟨t1, fun _ z => by cases z⟩⟩, Same.refl _, rfl, fun _ => k.ha, fun i => ?_, fun i j n o1 o2 => ?_, fun i o => ⟨nt_none atH, fun z => ?_⟩⟩, ?_⟩
      · have z : noHand k H p = some o := z
        by_cases e : p = k.ha
        · rw [e, atH] at z; cases z
        · rw [noH p e] at z; exact z
      · match i with
        | 0 => exact ⟨rfl, f1, _, f2, _, rfl, .cons (.lst f3 (ints_reps _)) (.cons (.int _) (.cons (.int _) (.cons (.int _) (.cons (.int _) .nil))))⟩
        | 1 => exact .int m
        | 2 => trivial
        | 3 => trivial
        | 4 => trivial
        | i + 5 => trivial
      · exfalso
        have own0 : ∀ i, isOwn (Env.at (rho0 h m) i) = true → i = 0 := fun i o => by
          match i, o with
          | 0, _ => rfl
          | 1, o => cases o
          | 2, o => cases o
          | 3, o => cases o
          | 4, o => cases o
          | i + 5, o => cases o
        exact n ((own0 i o1).trans (own0 j o2).symm)
      · rcases z with ⟨z, _⟩ | z
        · cases z
        · obtain ⟨qq, hq, e⟩ := List.mem_map.mp z
          obtain ⟨ps, g2, _⟩ := (t1.1 qq hq).2
          rw [e, f2] at g2
          cases g2
      · -- the end
        unfold drawR at hR
        revert hR
        generalize evSs (cfOf P0 0) S_draw (rho0 h m) none = o
        intro hR
        match o, hR with
        | some (.ok (.ret ρ (.int d2)), s'), hR =>
          obtain ⟨h2, e1, e2⟩ := Option.map_eq_some_iff.mp hR
          cases e2
          intro F' H' σ' v z ok rv
          have rv : Rep k F' v (.int d) := by rw [rep_int rv]; exact .int _
          have sl : ∃ cs cells, ρ.at 0 = .own (.lst [.lst cs, .int h'.i, .int h'.a, .int h'.b, .int h'.c]) ∧ intsD cs = some cells ∧ h'.cells = cells := by
            unfold handOf at e1
            split at e1
            · rename_i heq
              obtain ⟨cells, c1, rfl⟩ := Option.map_eq_some_iff.mp e1
              exact ⟨_, cells, heq, c1, rfl⟩
            · cases e1
          obtain ⟨cs, cells, e3, e4, e5⟩ := sl
          obtain ⟨p, u, g1, g2, ⟨xs, rfl, g3⟩, g4, g5, _⟩ := ok.mut e3
          rw [z] at g1
          cases g1
          refine q F' H' ⟨ok.ext.ff, ok.ext.fh, fun p o w nt' nm => ?_, fun p w => ?_, fun p w fn => ?_, rfl, ⟨ok.ext.hand.1, fun x hx => ?_⟩⟩ v rv
          · have e : p ≠ k.ha := fun z => nm (.inl ⟨rfl, z⟩)
            refine ok.ext.hx p o (by show noHand k H p = _; rw [noH p e]; exact w) nt' fun z => ?_
            rcases z with ⟨z, _⟩ | z
            · cases z
            · exact nm (.inr z)
          · by_cases e : p = k.ha
            · rw [e, nt_some g2 (fun ps z => by cases z)]; simp
            · refine ok.ext.nn p ?_
              show nt (noHand k H) p ≠ none
              unfold nt at w ⊢
              rw [noH p e]
              exact w
          · by_cases e : p = k.ha
            · rw [e]; exact g5
            · refine ok.ext.nf p ?_ fn
              show nt (noHand k H) p ≠ none
              unfold nt at w ⊢
              rw [noH p e]
              exact w
          · cases hx
            cases g3 with
            | cons q1 g3 => cases g3 with
              | cons q2 g3 => cases g3 with
                | cons q3 g3 => cases g3 with
                  | cons q4 g3 => cases g3 with
                    | cons q5 g3 =>
                      cases g3
                      cases q1 with
                      | lst u1 u2 =>
                        rw [rep_int q2, rep_int q3, rep_int q4, rep_int q5] at g2
                        refine ⟨g5, _, g2, ?_⟩
                        rw [u1, reps_ints u2 e4, e5]
end Ev
set_option maxHeartbeats 4000000
/-! EvRing: a ring is made. -/
namespace Ev
open PySem PySem.Spec PyProof.Rows L2
def N_ring : List PySem.Str := ["self", "values", "degree", "at", "value"]
/-- is_integer, is_between -/
def F_isint : Fn := ⟨1, 1, [.ret (.andv [(.isi (.var 0) ["int"]), (.notv (.isi (.var 0) ["bool"]))])]⟩
def F_isbet : Fn := ⟨3, 3, [.ret (.andv [(.call "is_integer" [(.var 0)]), (.chain .le .le (.var 1) (.var 0) (.var 2))])]⟩
def S_ring : List S := [.iff (.any [(.not (.e (.isi (.var 1) ["tuple"]))), (.not (.e (.chain .le .le (.glob "LEAST_DOTS") (.blt .len [(.var 1)]) (.glob "MOST_DOTS"))))]) [.never] [],
  .for (.tup [.one 3, .one 4]) (.enum (.var 1)) [.iff (.not (.e (.call "is_between" [(.var 4), (.neg (.glob "MOST_VALUE")), (.glob "MOST_VALUE")]))) [.never] []],
  .iff (.not (.e (.call "is_between" [(.var 2), (.neg (.glob "MOST_DEGREE")), (.glob "MOST_DEGREE")]))) [.never] []]
def P1 : Pg := { fns := fun f => if f = "is_integer" then some F_isint else if f = "is_between" then some F_isbet else none, prim := fun _ => none, gl := fun x => ([("LEAST_DOTS", .int 2), ("MOST_DOTS", .int 8), ("MOST_VALUE", .int 60), ("MOST_DEGREE", .int 4)] : List (PySem.Str × D)).lookup x, fl := fun _ => [], fnB := fun f => decide (f = "is_integer") || decide (f = "is_between"), clB := fun t => decide (t = "tuple") || decide (t = "int") || decide (t = "bool"), exB := fun _ => false, nwL := 0, nw := fun _ _ => none, wrd := fun _ => none }
/-- the stores at the end -/
def chkFld (c : Ck) (f : Str) (t : C) (st : Stmt) : Bool := match st with
  | .Assign [.Attribute (.Name x _) g _] e _ => nmB c 0 x && visB c x && okN x && decide (g = f) && noComp e && chkE P1 c t e
  | _ => false
def chkRing (c : Ck) (b : List Stmt) : Bool := chkSs P1 c S_ring (b.take 3) && match b.drop 3 with
  | [a, b, d] => chkFld c "dots" (.var 1) a && chkFld c "degree" (.var 2) b && chkFld c "many" (.blt .len [.var 1]) d
  | _ => false
/-- what is made of values and degree -/
noncomputable def ringR (ds : List D) : Option D := match ds with
  | [.tup vs, .int d] => match intsD vs with
    | some ns => match evSs (cfOf P1 3) S_ring (startE 5 [.hand, .tup (ns.map .int), .int d]) none with
      | some (.ok (.nx ρ), none) => if ρ.map isOwn = [false, false, false, false, false] then (match ρ.at 0, ρ.at 1, ρ.at 2 with
        | .v .hand, .v (.tup ws), .v (.int e) => (intsD ws).bind fun ms => some (.obj "Ring" [.tup (ms.map .int), .int e, .int ms.length])
        | _, _, _ => none) else none
      | _ => none
    | none => none
  | _ => none
/-- statements, then what follows -/
def tSsT (k : Kx) (W : XK) (Y : Cf) (t : List S) (u : TS) : TS := fun D σ H => tSs k W Y t { D with nx := u D } σ H
section
variable {k : Kx} {P : Pg} {n : Nat} {c : Ck} {W : XK} {X : Cx} {Y : Cf}
theorem u_nil {sts : List Stmt} {u : TS} (h : PSs X sts u) : PSs X sts (tSsT k W Y [] u) := by
  refine PSsw h fun D σ H ⟨B, F, ρ, s, ok, q⟩ => ?_
  have q : PostS k W B { D with nx := u D } (Ev.ok (Fl.nx ρ) s) := q
  exact q F H σ ok
theorem u_cons {t : S} {r : List S} {st : Stmt} {rest : List Stmt} {u : TS} (h1 : PS X st (tS k W Y t)) (h2 : PSs X rest (tSsT k W Y r u)) : PSs X (st :: rest) (tSsT k W Y (t :: r) u) := by
  refine PSsw (pss_cons h1 h2) fun D σ H ⟨B, F, ρ, s, ok, q⟩ => ⟨B, F, ρ, s, ok, ?_⟩
  have q : PostS k W B { D with nx := u D } (bnd (evS Y t ρ s) fun f s => match f with
    | .nx ρ' => evSs Y r ρ' s
    | f => Ev.ok f s) := q
  revert q
  generalize evS Y t ρ s = x
  intro z
  match x, z with
  | some (.ok (.nx ρ), s), p => exact fun F' H' σ' ok => ⟨B, F', ρ, s, ok, p⟩
  | some (.ok (.brk ρ), s), p => exact p
  | some (.ok (.cnt ρ), s), p => exact p
  | some (.ok (.ret ρ d), s), p => exact p
  | some (.ex e, s), p => exact p
theorem u_app (g : Good k P n c W X) (hk : c.sc.kind = .function) {u : TS} {l2 : List Stmt} (h : PSs X l2 u) : ∀ (r : List S) (l1 : List Stmt), (∀ s ∈ r, ∀ i, s ≠ .frz i) → chkSs P c r l1 = true → PSs X (l1 ++ l2) (tSsT k W (cfOf P n) r u)
  | [], l1, _, e => by
    simp only [chkSs] at e
    split at e
    · exact u_nil h
    · cases e
  | s :: r, l1, nf, e => by
    have nf' : ∀ s ∈ r, ∀ i, s ≠ .frz i := fun s hs => nf s (List.mem_cons_of_mem _ hs)
    have n0 := nf s List.mem_cons_self
    cases s
    case frz i => exact absurd rfl (n0 i)
    all_goals
      simp only [chkSs] at e
      split at e
      · rw [Bool.and_eq_true] at e
        exact u_cons (sS _ W X _ g hk e.1) (u_app g hk h r _ nf' e.2)
      · cases e
end
def K1 (k : Kx) (a1 a2 x : Addr) : Kx := { k with cls := fun _ => none, ecl := fun _ => none, fns := fun f => if f = "is_integer" then some a1 else if f = "is_between" then some a2 else none, fl := fun _ => [], ha := x }
section
variable {k : Kx} {prog : Program} {w : World} {K : PySem.W.Frag} {mg : Str → Option Value} {base : Heap}
theorem bd1 (hK : K = k.K) (hw : w = k.w) (blt : ∀ x ∈ BLT, mg x = none) (hg : ∀ x i, P1.gl x = some (.int i) → ∃ u, mg x = some u ∧ RelV (.int i) u) (a1 a2 x : Addr) : Bd (K1 k a1 a2 x) P1 prog w K mg base where
  hK := hK
  hw := hw
  fl := rfl
  blt := blt
  gl := fun y d h => by
    have hi : ∃ i, d = .int i := by
      have : ∀ q ∈ ([("LEAST_DOTS", .int 2), ("MOST_DOTS", .int 8), ("MOST_VALUE", .int 60), ("MOST_DEGREE", .int 4)] : List (PySem.Str × D)), ∃ i, q.2 = .int i := by
        intro q hq
        simp only [List.mem_cons, List.not_mem_nil, or_false] at hq
        rcases hq with rfl | rfl | rfl | rfl <;> exact ⟨_, rfl⟩
      exact this (y, d) (PySem.mem_of_lookup h)
    obtain ⟨i, rfl⟩ := hi
    obtain ⟨u, h1, h2⟩ := hg y i h
    exact ⟨u, .int i, h1, h2, fun F => .int i⟩
  objs := fun _ _ h => by cases h
  objT := fun _ _ h => by cases h
  ownN := fun _ _ h => by cases h
  clsG := fun _ _ h => by cases h
  news := fun _ _ h => by cases h
  hfn := fun f h => by
    have h : (decide (f = "is_integer") || decide (f = "is_between")) = true := h
    rw [Bool.or_eq_true, decide_eq_true_eq, decide_eq_true_eq] at h
    show ∃ a, (if f = "is_integer" then some a1 else if f = "is_between" then some a2 else none) = some a
    by_cases e : f = "is_integer"
    · exact ⟨a1, if_pos e⟩
    · rcases h with h | h
      · exact absurd h e
      · exact ⟨a2, by rw [if_neg e, if_pos h]⟩
  hcl := fun t h => by
    have h : (decide (t = "tuple") || decide (t = "int") || decide (t = "bool")) = true := h
    simp only [Bool.or_eq_true, decide_eq_true_eq] at h
    left
    rcases h with (rfl | rfl) | rfl <;> decide
  hex := fun _ h => by cases h
  isi := (bd0 (k := k) (prog := prog) (base := base) hK hw blt).isi
/-- the two defs that __init__ calls -/
structure Two (K : PySem.W.Frag) (mg : Str → Option Value) (a1 a2 : Addr) : Prop where
  one : ∃ qual params body scope fd, FunD K "is_integer" qual params body scope [] [] a1 fd ∧ FnScope ["thing"] ["thing"] scope ∧ chkSs P1 ⟨["thing"], scope, fun _ => true, false, false, [], ""⟩ F_isint.body body = true ∧ mg "is_integer" = some (.ref a1) ∧ L2.Binds K fd ["thing"] []
  two : ∃ qual params body scope fd, FunD K "is_between" qual params body scope [] [] a2 fd ∧ FnScope ["thing", "low", "high"] ["thing", "low", "high"] scope ∧ chkSs P1 ⟨["thing", "low", "high"], scope, fun _ => true, false, false, [], ""⟩ F_isbet.body body = true ∧ mg "is_between" = some (.ref a2) ∧ L2.Binds K fd ["thing", "low", "high"] []
theorem calls1 (hK : K = k.K) (hw : w = k.w) (blt : ∀ x ∈ BLT, mg x = none) (hg : ∀ x i, P1.gl x = some (.int i) → ∃ u, mg x = some u ∧ RelV (.int i) u) {a1 a2 : Addr} (t : Two K mg a1 a2) (x : Addr) (n : Nat) : Calls (K1 k a1 a2 x) P1 prog w K mg base n := by
  refine calls_all (bd1 hK hw blt hg a1 a2 x) (fun f a h => .inl ?_) n
  have h : (if f = "is_integer" then some a1 else if f = "is_between" then some a2 else none) = some a := h
  by_cases e : f = "is_integer"
  · subst e
    rw [if_pos rfl] at h
    cases h
    obtain ⟨qual, params, body, scope, fd, h1, h2, h3, h4, h5⟩ := t.one
    exact ⟨false, qual, params, body, scope, fd, _, _, F_isint, ⟨rfl, rfl, h1, h2, h3, (fun z => by cases z), rfl, rfl, h4, h5⟩⟩
  · rw [if_neg e] at h
    by_cases e2 : f = "is_between"
    · subst e2
      rw [if_pos rfl] at h
      cases h
      obtain ⟨qual, params, body, scope, fd, h1, h2, h3, h4, h5⟩ := t.two
      exact ⟨false, qual, params, body, scope, fd, _, _, F_isbet, ⟨rfl, rfl, h1, h2, h3, (fun z => by cases z), rfl, rfl, h4, h5⟩⟩
    · rw [if_neg e2] at h
      cases h
/-- an object that the base leaves out changes -/
theorem EnvOk.swap {B : Bs} {F H : Hp} {σ : L2.St} {ρ : Env} {a : Addr} {o o' : HO} (ok : EnvOk k B F H σ ρ none) (n : B.H a = none) (hf : F a = none) (h : H a = some o') (pl : Plain o') (no : ∀ i, isOwn (ρ.at i) = false) : EnvOk k B F (upd H a o) σ ρ none := by
  obtain ⟨A, h1, h2, h3⟩ := ok.sl
  have E := ok.ext
  refine ⟨⟨E.ff, fun b u e => by rw [upd_ne (ne_of_none e hf)]; exact E.fh b u e, fun p u e z m => by rw [upd_ne (ne_of_none e n)]; exact E.hx p u e z m, fun p z => ?_, E.nf, E.st, ⟨⟨fun q hq => ⟨(E.hand.1.1 q hq).1, TabS_upd (E.hand.1.1 q hq).2 h pl⟩, E.hand.1.2⟩, fun _ z => by cases z⟩⟩, ok.gf, ok.len, A, fun i => ?_, h2, h3⟩
  · have ne : p ≠ a := fun e => z (by rw [e]; exact nt_none n)
    rw [nt_upd ne]
    exact E.nn p z
  · have z := h1 i
    have y := no i
    cases e : ρ.at i with
    | no => trivial
    | v d =>
      rw [e] at z
      match σ[i]?, z with
      | some (some w), z => exact z
    | own d => rw [e] at y; cases y
theorem plain_ins (C dx : Addr) (fs : List (Str × V)) : Plain (.ins C dx fs) := ⟨fun c q z => (by unfold LamX.CodeO at z; cases z), fun ps z => (by cases z)⟩
theorem ringR_some {ds : List D} {d : D} (h : ringR ds = some d) : ∃ vs i ns ρ ws e ms, ds = [.tup vs, .int i] ∧ intsD vs = some ns ∧ evSs (cfOf P1 3) S_ring (startE 5 [.hand, .tup (ns.map .int), .int i]) none = some (.ok (.nx ρ), none) ∧ ρ.map isOwn = [false, false, false, false, false] ∧ ρ.at 0 = .v .hand ∧ ρ.at 1 = .v (.tup ws) ∧ ρ.at 2 = .v (.int e) ∧ intsD ws = some ms ∧ d = .obj "Ring" [.tup (ms.map .int), .int e, .int ms.length] := by
  unfold ringR at h
  split at h
  · rename_i vs i
    split at h
    · rename_i ns hns
      split at h
      · rename_i ρ hev
        split at h
        · rename_i hown
          split at h
          · rename_i ws e h0 h1 h2
            obtain ⟨ms, hm, h⟩ := Option.bind_eq_some_iff.mp h
            cases h
            exact ⟨vs, i, ns, ρ, ws, e, ms, rfl, hns, hev, hown, h0, h1, h2, hm, rfl⟩
          · cases h
        · cases h
      · cases h
    · cases h
  · cases h
theorem intsD_map : ∀ {vs : List D} {ns : List Int}, intsD vs = some ns → vs = ns.map .int
  | [], ns, h => by cases h; rfl
  | .int i :: vs, ns, h => by
    obtain ⟨ms, h1, rfl⟩ := Option.map_eq_some_iff.mp (show (intsD vs).map (i :: ·) = some ns from h)
    rw [intsD_map h1]
    rfl
  | .non :: _, _, h => by cases h
  | .bl _ :: _, _, h => by cases h
  | .str _ :: _, _, h => by cases h
  | .tup _ :: _, _, h => by cases h
  | .lst _ :: _, _, h => by cases h
  | .dct _ :: _, _, h => by cases h
  | .obj _ _ :: _, _, h => by cases h
  | .fn _ :: _, _, h => by cases h
  | .hand :: _, _, h => by cases h
theorem fld_ok {n : Nat} {c : Ck} {W : XK} {X : Cx} {k1 : Kx} (g : Good k1 P1 n c W X) {f : Str} {t : C} {st : Stmt} (h : chkFld c f t st = true) : PS X st (sFld X.K (tVar 0) (tE k1 W (cfOf P1 n) t) f) := by
  unfold chkFld at h
  split at h
  · simp only [Bool.and_eq_true, decide_eq_true_eq] at h
    obtain ⟨⟨⟨⟨⟨h1, h2⟩, h3⟩, rfl⟩, h5⟩, h6⟩ := h
    exact ps_fld (pe_var (by rw [g.hN]; exact of_decide_eq_true h1) (g.vis h2) (okN_d h3).1 (okN_d h3).2.1) (sE t _ c W X _ g h6).1 (noComp_ok h5 _ _ _)
  · cases h
def era (a : Addr) (H : Hp) : Hp := fun b => if b = a then none else H b
theorem EnvOk.era {B : Bs} {F H : Hp} {σ : L2.St} {ρ : Env} (ok : EnvOk k B F H σ ρ none) (no : ∀ i, isOwn (ρ.at i) = false) (a : Addr) : EnvOk k ⟨F, era a H, none, F⟩ F H σ ρ none := by
  obtain ⟨A, z1, z2, z3⟩ := ok.sl
  refine ⟨⟨Same.refl _, ok.ext.fh, fun p o y _ _ => ?_, fun p y => ?_, fun _ _ y => y, rfl, ok.ext.hand⟩, Same.refl _, ok.len, A, z1, z2, fun i o => ?_⟩
  · have y : (if p = a then none else H p) = some o := y
    split at y
    · cases y
    · exact y
  · have y : nt (Ev.era a H) p ≠ none := y
    by_cases e : p = a
    · rw [nt_none (by show (if p = a then none else H p) = none; rw [if_pos e])] at y
      exact absurd rfl y
    · unfold nt Ev.era at y
      unfold nt
      rw [if_neg e] at y
      exact y
  · rw [no i] at o; cases o
/-- one store into self -/
theorem store {k1 : Kx} {W : XK} {Y : Cf} {B : Bs} {F H : Hp} {σ : L2.St} {ρ : Env} {a Ca dx : Addr} {fs : List (Str × V)} {f : Str} {t : C} {d : D} {D' : Ends} (ok : EnvOk k1 B F H σ ρ none) (ha : k1.ha = a) (n : B.H a = none) (hf : F a = none) (h : H a = some (.ins Ca dx fs)) (nm : ¬ Mx k1 none a) (h0 : ρ.at 0 = .v .hand) (no : ∀ i, isOwn (ρ.at i) = false) (cl : Cls K Ca) (na : NoAttr K Ca f) (hl : fs.length < 1000)
    (ev : evE Y t ρ none = some (.ok d, none)) (q : ∀ F' H' v, Ext k1 F H none F' H' none → Rep k1 F' v d → EnvOk k1 B F' (upd H' a (.ins Ca dx (putF f v fs))) σ ρ none → F' a = none → (upd H' a (.ins Ca dx (putF f v fs))) a = some (.ins Ca dx (putF f v fs)) → D'.nx σ (upd H' a (.ins Ca dx (putF f v fs)))) : sFld K (tVar 0) (tE k1 W Y t) f D' σ H := by
  refine ⟨B, F, ρ, none, ok, ?_⟩
  rw [ev]
  intro F' H' E v r
  have ok' := ok.next E
  obtain ⟨v0, e0, r0⟩ := ok'.val (i := 0) (d := .hand) (by rw [h0]; rfl)
  cases r0
  have nt' : NT (.ins Ca dx fs) := fun ps z => by cases z
  have h' := E.hx a _ h nt' nm
  have f' := E.nf a (by rw [nt_some h nt']; intro z; cases z) hf
  refine ⟨_, e0, a, Ca, dx, fs, by rw [ha], h', cl, na, hl, ?_⟩
  refine q F' H' v E r (ok'.swap n f' h' (plain_ins Ca dx fs) no) f' ?_
  exact upd_same
/-- what lives on beside one object -/
structure Rn (k : Kx) (a : Addr) (F H F' H' : Hp) : Prop where
  ff : Same F F'
  hx : ∀ p o, p ≠ a → H p = some o → NT o → p ∉ k.tb.map (·.1) → H' p = some o
  nn : ∀ p, nt H p ≠ none → nt H' p ≠ none
  nf : ∀ p, nt H p ≠ none → F p = none → F' p = none
theorem Rn.of {a : Addr} {F H F' H' : Hp} (E : Ext k F H none F' H' none) : Rn k a F H F' H' := ⟨E.ff, fun p o _ h n m => E.hx p o h n fun z => by
  rcases z with ⟨z, _⟩ | z
  · cases z
  · exact m z, E.nn, E.nf⟩
theorem Rn.trans {a : Addr} {F H F1 H1 F2 H2 : Hp} (x : Rn k a F H F1 H1) (y : Rn k a F1 H1 F2 H2) : Rn k a F H F2 H2 :=
  ⟨x.ff.trans y.ff, fun p o n h t m => y.hx p o n (x.hx p o n h t m) t m, fun p z => y.nn p (x.nn p z), fun p z w => y.nf p (x.nn p z) (x.nf p z w)⟩
theorem Rn.upd {a : Addr} {F H : Hp} {o : HO} (n : NT o) : Rn k a F H F (upd H a o) :=
  ⟨Same.refl _, fun p o' ne h _ _ => by rw [upd_ne ne]; exact h, fun p z => by
    by_cases e : p = a
    · subst e; rw [nt_some upd_same n]; intro z; cases z
    · unfold nt at z ⊢; rw [upd_ne e]; exact z, fun _ _ z => z⟩
theorem len_ev {Y : Cf} {ρ : Env} {ws : List D} {ms : List Int} (h5 : ρ.at 1 = .v (.tup ws)) (h : ws = ms.map .int) : evE Y (.blt .len [.var 1]) ρ none = some (.ok (.int ms.length), none) := by
  have z : evE Y (.blt .len [.var 1]) ρ none = bnd (bnd (lift (ρ.at 1).bor none) fun d s => bnd (ok [] s) fun ds s => ok (d :: ds) s) (fun ds s => lift (bltD .len ds) s) := rfl
  rw [z, h5, h]
  show some (R.ok (D.int ((ms.map D.int).length : Nat)), none) = _
  rw [List.length_map]
theorem ring_ok {P : Pg} {qual : Str} {params : Arguments} {body : List Stmt} {scope : Scope} {fI C : Addr} {fd : FuncData} (hK : K = k.K) (hw : w = k.w) (blt : ∀ x ∈ BLT, mg x = none) (hg : ∀ x i, P1.gl x = some (.int i) → ∃ u, mg x = some u ∧ RelV (.int i) u) {a1 a2 : Addr} (t : Two K mg a1 a2)
    (cl : Cls K C) (na : ∀ f ∈ [("dots" : Str), "degree", "many"], NoAttr K C f) (hfl : P.fl "Ring" = [("dots" : Str), "degree", "many"]) (hnw : ∀ ds, P.nw "Ring" ds = ringR ds)
    (FD : FunD K "__init__" qual params body scope [] [] fI fd) (S : FnScope N_ring ["self", "values", "degree"] scope) (hc : chkRing ⟨N_ring, scope, fun _ => true, false, false, [], ""⟩ body = true) : FnOk prog w K mg base (L2.CX prog w) 4 fI fd ["self", "values", "degree"] (SpNew k P "Ring" C ["self", "values", "degree"]) := by
  refine FD.ok S (fun vs H Q E h => ?_) fun cdv A outer s0 H vs Q E hr h => ?_
  · obtain ⟨a, dx, rest, F, s, ds, fs, rfl, h, _⟩ := h
    simpa using h
  obtain ⟨a, dx, rest, F, s, ds, fs, rfl, hl, fh, hd, hH, hF, hdx, nm, r, hn, hq⟩ := h
  rw [hnw] at hn
  obtain ⟨vs, i, ns, ρ, ws, e, ms, rfl, h1, h2, h3, h4, h5, h6, h7, h8⟩ := ringR_some hn
  have hfs : fs = [.tup (ms.map .int), .int e, .int ms.length] := by cases h8; rfl
  have g := (bd1 (k := k) (prog := prog) (base := base) hK hw blt hg a1 a2 a).good (n := 3) (outer := outer) (H := H) (E := E) (Nat.zero_le 3) (fun m _ => calls1 hK hw blt hg t a m) false S (fun z => by cases z) hr
  unfold chkRing at hc
  rw [Bool.and_eq_true] at hc
  obtain ⟨hc1, hc2⟩ := hc
  split at hc2
  · rename_i sa sb sd hdrop
    simp only [Bool.and_eq_true] at hc2
    obtain ⟨⟨c1, c2⟩, c3⟩ := hc2
    have hb : body = body.take 3 ++ [sa, sb, sd] := by rw [← hdrop, List.take_append_drop]
    have pb := u_app g S.kind (pss_cons (fld_ok g c1) (pss_cons (fld_ok g c2) (pss_one (fld_ok g c3)))) S_ring (body.take 3) (by
      intro s hs j
      simp only [S_ring, List.mem_cons, List.not_mem_nil, or_false] at hs
      rcases hs with rfl | rfl | rfl <;> (intro z; cases z)) hc1
    rw [← hb] at pb
    refine ⟨_, pb, ?_⟩
    -- the values passed
    cases r with
    | cons r1 r =>
    cases r with
    | cons r2 r =>
    cases r
    rename_i v1 v2
    have hvs := intsD_map h1
    obtain ⟨ta, xs, rfl, u1, u2⟩ := rep_tup r1
    have hx := reps_ints u2 h1
    subst hx
    rw [rep_int r2]
    have rr : Reps (K1 k a1 a2 a) F [.ref a, .ref ta, .int i] [.hand, .tup (ns.map .int), .int i] := .cons .hand (.cons (.tup u1 (ints_reps _)) (.cons (.int _) .nil))
    have base0 : EnvOk (K1 k a1 a2 a) ⟨F, H, none, F⟩ F H (L2.start N_ring [.ref a, .ref ta, .int i]) (startE 5 [.hand, .tup (ns.map .int), .int i]) none := start_ok (k := K1 k a1 a2 a) (s := none) (N := N_ring) fh ⟨hd.1, fun _ z => by cases z⟩ rr (by simp [N_ring])
    refine ⟨_, F, _, none, base0, ?_⟩
    rw [h2]
    intro F' H' σ' ok
    have no : ∀ j, isOwn (ρ.at j) = false := fun j => by
      have hlen : ρ.length = 5 := by have := congrArg List.length h3; simpa using this
      by_cases hj : j < 5
      · have : (ρ.map isOwn)[j]? = some false := by
          rw [h3]
          match j, hj with
          | 0, _ => rfl
          | 1, _ => rfl
          | 2, _ => rfl
          | 3, _ => rfl
          | 4, _ => rfl
        rw [List.getElem?_map] at this
        obtain ⟨y, y1, y2⟩ := Option.map_eq_some_iff.mp this
        unfold Env.at
        rw [List.getD_eq_getElem?_getD, y1]
        exact y2
      · unfold Env.at
        rw [List.getD_eq_getElem?_getD, List.getElem?_eq_none (by omega)]
        rfl
    have nm1 : ¬ Mx (K1 k a1 a2 a) none a := fun z => by
      rcases z with ⟨z, _⟩ | z
      · cases z
      · exact nm (.inr z)
    have B0 : Ev.era a H' a = none := by unfold Ev.era; rw [if_pos rfl]
    have nti : NT (.ins C dx []) := fun ps z => by cases z
    have h' : H' a = some (.ins C dx []) := ok.ext.hx a _ hH nti nm1
    have f' : F' a = none := ok.ext.nf a (by show nt H a ≠ none; rw [nt_some hH nti]; intro z; cases z) hF
    have ok1 := ok.era no a
    have ni : ∀ (fs : List (Str × V)), NT (.ins C dx fs) := fun fs ps z => by cases z
    have R0 : Rn (K1 k a1 a2 a) a F H F' H' := Rn.of ok.ext
    refine store ok1 rfl B0 f' h' nm1 h4 no cl (na "dots" (by simp)) (by simp) (d := .tup ws) (by show lift (ρ.at 1).val none = _; rw [h5]; rfl) fun F1 H1 w1 E1 q1 ok2 f1 h1' => ?_
    refine store ok2 rfl B0 f1 h1' nm1 h4 no cl (na "degree" (by simp)) (by simp [putF]) (d := .int e) (by show lift (ρ.at 2).val none = _; rw [h6]; rfl) fun F2 H2 w2 E2 q2 ok3 f2 h2' => ?_
    refine store ok3 rfl B0 f2 h2' nm1 h4 no cl (na "many" (by simp)) (by rw [show (putF "degree" w2 (putF "dots" w1 [])).length = 2 from rfl]; decide) (d := .int ms.length) (len_ev (Y := cfOf P1 3) h5 (intsD_map h7)) fun F3 H3 w3 E3 q3 ok4 f3 h3' => ?_
    have R4 := (((((R0.trans (Rn.of E1)).trans (Rn.upd (ni _))).trans (Rn.of E2)).trans (Rn.upd (ni _))).trans (Rn.of E3)).trans (Rn.upd (o := .ins C dx (putF "many" w3 (putF "degree" w2 (putF "dots" w1 [])))) (ni _))
    have hfl3 : putF "many" w3 (putF "degree" w2 (putF "dots" w1 [])) = (P.fl "Ring").zip [w1, w2, w3] := by rw [hfl]; rfl
    rw [hfl3] at R4 h3' ok4 ⊢
    refine hq F3 _ [w1, w2, w3] ?_ ?_ (by rw [hfl]; rfl)
    · have E4 := ok4.ext
      have ka : ∀ h, s = some h → k.ha ≠ a := fun h z y => by
        obtain ⟨_, hc, y1, _⟩ := hd.2 h z
        rw [y, hH] at y1
        cases y1
      have kt : ∀ h, s = some h → k.ha ∉ k.tb.map (·.1) := fun h z y => by
        obtain ⟨q, y1, y2⟩ := List.mem_map.mp y
        obtain ⟨_, hc, y3, _⟩ := hd.2 h z
        obtain ⟨ps, y4, _⟩ := (hd.1.1 q y1).2
        rw [y2, y3] at y4
        cases y4
      have nta : nt (upd H a (.ins C dx ((P.fl "Ring").zip [w1, w2, w3]))) = fun p => if p = a then some (.ins C dx ((P.fl "Ring").zip [w1, w2, w3])) else nt H p := by
        funext p
        by_cases y : p = a
        · subst y; rw [nt_some upd_same (ni _), if_pos rfl]
        · rw [if_neg y]; unfold nt; rw [upd_ne y]
      have back : ∀ p, nt (upd H a (.ins C dx ((P.fl "Ring").zip [w1, w2, w3]))) p ≠ none → nt H p ≠ none := fun p y => by
        rw [nta] at y
        by_cases z : p = a
        · rw [z, nt_some hH (ni _)]; intro w; cases w
        · dsimp only at y; rw [if_neg z] at y; exact y
      refine ⟨R4.ff, E4.fh, fun p o y1 y2 y3 => ?_, fun p y => R4.nn p (back p y), fun p y => R4.nf p (back p y), rfl, E4.hand.1, fun h z => ?_⟩
      · by_cases y : p = a
        · subst y
          rw [upd_same] at y1
          rw [← y1]
          exact upd_same
        · rw [upd_ne y] at y1
          exact R4.hx p o y y1 y2 fun z => y3 (.inr z)
      · obtain ⟨y1, hc, y2, y3⟩ := hd.2 h z
        exact ⟨R4.nf _ (by rw [nt_some y2 (fun ps z => by cases z)]; intro w; cases w) y1, hc, R4.hx _ _ (ka h z) y2 (fun ps z => by cases z) (kt h z), R4.ff _ _ y3⟩
    · rw [hfs]
      obtain ⟨ta2, xs, y1, y2, y3⟩ := rep_tup (Rep.mono E3.ff (Rep.mono E2.ff q1))
      have y4 := reps_ints y3 h7
      subst y4
      rw [y1, rep_int q2, rep_int q3]
      exact .cons (.tup y2 (ints_reps _)) (.cons (.int _) (.cons (.int _) .nil))
  · cases hc2
end
end Ev
set_option maxHeartbeats 4000000
/-! EvDrw: what the draw tells. -/
namespace Ev
open PySem PySem.Spec PyProof.Rows L2
theorem mulD {i j : Int} (h : i.natAbs.log2 + j.natAbs.log2 < 1000000) : binD .mul (.int i) (.int j) = some (.int (i * j)) := by
  show guardD (mulG i j) _ = _
  unfold guardD mulG
  rw [if_pos (decide_eq_true h)]
theorem modD {i j : Int} (h : j ≠ 0) : binD .mod (.int i) (.int j) = some (.int (i.fmod j)) := by
  show guardD (decide (j ≠ 0)) _ = _
  unfold guardD
  rw [if_pos (decide_eq_true h)]
theorem divD {i j : Int} (h : j ≠ 0) (h2 : j.natAbs < 1073741824) : binD .fdiv (.int i) (.int j) = some (.int (i.fdiv j)) := by
  show guardD (divG j) _ = _
  unfold guardD divG
  rw [if_pos (by simp [h, h2])]
theorem log_lt {i : Int} {n : Nat} (h : i.natAbs < 2 ^ n) (hn : 0 < n) : i.natAbs.log2 < n := by
  by_cases z : i.natAbs = 0
  · rw [z]; simpa using hn
  · exact (Nat.log2_lt z).mpr h
/-- a product of small numbers -/
theorem mulS {i j : Int} (h : i.natAbs < 2 ^ 400000) (h2 : j.natAbs < 2 ^ 400000) : binD .mul (.int i) (.int j) = some (.int (i * j)) :=
  mulD (by have := log_lt h (by decide); have := log_lt h2 (by decide); omega)
theorem cEq (i j : Int) : cmpD .eq (.int i) (.int j) = some (.bl (decide (i = j))) := by
  show (eqD (.int i) (.int j)).map D.bl = _
  exact congrArg (fun b => some (D.bl b)) (show (i == j) = decide (i = j) from rfl)
theorem cGt (i j : Int) : cmpD .gt (.int i) (.int j) = some (.bl (decide (j < i))) := rfl
theorem cLt (i j : Int) : cmpD .lt (.int i) (.int j) = some (.bl (decide (i < j))) := rfl
theorem cGe (i j : Int) : cmpD .ge (.int i) (.int j) = some (.bl (decide (j ≤ i))) := rfl
theorem tBl (b : Bool) : truD (.bl b) = some b := rfl
theorem lenL (xs : List D) : bltD .len [.lst xs] = some (.int xs.length) := rfl
theorem intI (i : Int) : bltD .int [.int i] = some (.int i) := rfl
theorem addI (i j : Int) : binD .add (.int i) (.int j) = some (.int (i + j)) := rfl
/-- the hand as it stands in all laws -/
structure HandG (h : Hand) (c : Int) : Prop where
  cells : ∀ x ∈ h.cells, 0 ≤ x
  len : h.cells.length ≤ 64
  i : 0 ≤ h.i
  a : 0 ≤ h.a
  b : 0 ≤ h.b ∧ h.b < 2147483647
  c : 0 ≤ h.c ∧ h.c ≤ c
section
variable (cs : List D) (i a b c : Int)
theorem h0 : subD (.lst [.lst cs, .int i, .int a, .int b, .int c]) (.int 0) = some (.lst cs) := rfl
theorem h1 : subD (.lst [.lst cs, .int i, .int a, .int b, .int c]) (.int 1) = some (.int i) := rfl
theorem h2 : subD (.lst [.lst cs, .int i, .int a, .int b, .int c]) (.int 2) = some (.int a) := rfl
theorem h3 : subD (.lst [.lst cs, .int i, .int a, .int b, .int c]) (.int 3) = some (.int b) := rfl
theorem h4 : subD (.lst [.lst cs, .int i, .int a, .int b, .int c]) (.int 4) = some (.int c) := rfl
end
theorem mulW {i j : Int} (h : i.natAbs < 2 ^ 100) (h2 : j.natAbs < 2 ^ 100) : binD .mul (.int i) (.int j) = some (.int (i * j)) :=
  mulD (by have := log_lt h (by decide); have := log_lt h2 (by decide); omega)
/-- the last part of the draw -/
def S_dr3 : List S := S_draw.drop 2
theorem fm {x m : Int} (h : 0 < m) : 0 ≤ x.fmod m ∧ x.fmod m < m := ⟨Int.fmod_nonneg_of_pos x h, Int.fmod_lt_of_pos x h⟩
theorem draw3 (cs : List D) (i a b c m : Int) (u v w : Sl) (hm : 0 < m) (hb : 0 ≤ b ∧ b < 2147483647) (hc : 0 ≤ c ∧ c < 2 ^ 60) : ∃ d u' v' w', 0 ≤ d ∧ d < m ∧ evSs (cfOf P0 0) S_dr3 [.own (.lst [.lst cs, .int i, .int a, .int b, .int c]), .v (.int m), u, v, w] none = some (.ok (.ret [.own (.lst [.lst cs, .int i, .int a, .int b, .int (c + 1)]), .v (.int m), u', v', w'] (.int d)), none) := by
  have ix : ixD 5 4 = some 4 := rfl
  simp only [S_dr3, S_draw, List.drop, evSs, evS, evT, evAll, evE, evBs, bor, Env.at, List.getD_cons_zero, List.getD_cons_succ, Sl.bor.eq_1, Sl.bor.eq_2, Sl.val.eq_1, lift_some, bnd_ok, h0, h1, h2, h3, h4, addI, List.length_cons, List.length_nil, Nat.zero_add, Nat.reduceAdd, ix, List.set_cons_zero, List.set_cons_succ, intI]
  rw [mulW (i := 7919) (j := c + 1) (by decide) (by omega)]
  simp only [lift_some, bnd_ok, addI, intI]
  rw [mulW (i := b + 7919 * (c + 1)) (j := 48271) (by omega) (by decide)]
  simp only [lift_some, bnd_ok, addI, intI]
  rw [modD (by decide)]
  simp only [lift_some, bnd_ok, addI, intI, List.getD_cons_zero, List.getD_cons_succ, Sl.bor.eq_1]
  have g1 := fm (x := (b + 7919 * (c + 1)) * 48271) (m := 2147483647) (by decide)
  generalize ((b + 7919 * (c + 1)) * 48271).fmod 2147483647 = x1 at g1 ⊢
  rw [divD (by decide) (by decide)]
  simp only [lift_some, bnd_ok, addI, intI]
  have q1 : 0 ≤ x1.fdiv 1009 ∧ x1.fdiv 1009 ≤ x1 := by rw [Int.fdiv_eq_ediv_of_nonneg _ (by decide)]; omega
  generalize x1.fdiv 1009 = y1 at q1 ⊢
  rw [mulW (i := x1) (by omega) (by omega)]
  simp only [lift_some, bnd_ok, addI, intI]
  rw [modD (by decide)]
  simp only [lift_some, bnd_ok, addI, intI, List.set_cons_zero, List.set_cons_succ, List.getD_cons_zero, List.getD_cons_succ, Sl.bor.eq_1]
  have g2 := fm (x := x1 * (y1 + 69621)) (m := 2147483647) (by decide)
  generalize (x1 * (y1 + 69621)).fmod 2147483647 = x2 at g2 ⊢
  rw [divD (by decide) (by decide)]
  simp only [lift_some, bnd_ok, addI, intI]
  have q2 : 0 ≤ x2.fdiv 2003 ∧ x2.fdiv 2003 ≤ x2 := by rw [Int.fdiv_eq_ediv_of_nonneg _ (by decide)]; omega
  generalize x2.fdiv 2003 = y2 at q2 ⊢
  rw [mulW (i := x2) (by omega) (by omega)]
  simp only [lift_some, bnd_ok, addI, intI]
  rw [modD (by decide)]
  simp only [lift_some, bnd_ok, addI, intI, List.set_cons_zero, List.set_cons_succ, List.getD_cons_zero, List.getD_cons_succ, Sl.bor.eq_1]
  rw [divD (by decide) (by decide)]
  simp only [lift_some, bnd_ok, addI, intI]
  rw [modD (by omega)]
  simp only [lift_some, bnd_ok]
  exact ⟨_, _, _, _, (fm hm).1, (fm hm).2, rfl⟩
def handE (cs : List D) (i a b c m : Int) (u v w : Sl) : Env := [.own (.lst [.lst cs, .int i, .int a, .int b, .int c]), .v (.int m), u, v, w]
theorem draw2 (cs : List D) (i a b c m : Int) (u v w : Sl) (ha : 0 ≤ a) (hm : 0 < m ∧ m < 1073741824) (hb : 0 ≤ b ∧ b < 2147483647) (hc : 0 ≤ c ∧ c < 2 ^ 60) : ∃ d a' c' u' v' w', 0 ≤ d ∧ d < m ∧ 0 ≤ a' ∧ c ≤ c' ∧ c' ≤ c + 1 ∧ evSs (cfOf P0 0) (S_draw.drop 1) (handE cs i a b c m u v w) none = some (.ok (.ret (handE cs i a' b c' m u' v' w') (.int d)), none) := by
  have ix : ixD 5 2 = some 2 := rfl
  by_cases z : 0 < a
  · refine ⟨a.fmod m, a.fdiv m, c, u, v, .v (.int (a.fmod m)), (fm hm.1).1, (fm hm.1).2, ?_, Int.le_refl _, by omega, ?_⟩
    · rw [Int.fdiv_eq_ediv_of_nonneg _ (by omega)]; exact Int.ediv_nonneg ha (by omega)
    · simp only [handE, S_draw, List.drop, evSs, evS, evT, evAll, evE, evBs, bor, Env.at, List.getD_cons_zero, List.getD_cons_succ, Sl.bor.eq_1, Sl.bor.eq_2, Sl.val.eq_1, lift_some, bnd_ok, h0, h1, h2, h3, h4, addI, List.length_cons, List.length_nil, Nat.zero_add, Nat.reduceAdd, ix, List.set_cons_zero, List.set_cons_succ, intI, cGt, tBl, decide_eq_true z, if_pos, modD (show m ≠ 0 by omega), divD (show m ≠ 0 by omega) (show m.natAbs < 1073741824 by omega)]
      rfl
  · obtain ⟨d, u', v', w', d1, d2, e⟩ := draw3 cs i a b c m u v w hm.1 hb hc
    refine ⟨d, a, c + 1, u', v', w', d1, d2, ha, by omega, Int.le_refl _, ?_⟩
    rw [handE, show S_draw.drop 1 = (S_draw.drop 1).head (by decide) :: S_dr3 from rfl]
    simp only [evSs]
    rw [show evS (cfOf P0 0) ((S_draw.drop 1).head (by decide)) [.own (.lst [.lst cs, .int i, .int a, .int b, .int c]), .v (.int m), u, v, w] none = ok (.nx [.own (.lst [.lst cs, .int i, .int a, .int b, .int c]), .v (.int m), u, v, w]) none from ?_]
    · exact e
    · simp only [S_draw, List.drop, List.head, evSs, evS, evT, evE, bor, Env.at, List.getD_cons_zero, Sl.bor.eq_2, lift_some, bnd_ok, h2, cGt, tBl, decide_eq_false z, if_neg, reduceCtorEq, Bool.false_eq_true, if_false]
theorem sub_int {cs : List Int} {i : Int} (h : 0 ≤ i) (h2 : i < cs.length) : ∃ x ∈ cs, subD (.lst (cs.map .int)) (.int i) = some (.int x) := by
  have z : i.toNat < cs.length := by omega
  refine ⟨cs[i.toNat], List.getElem_mem z, ?_⟩
  show (ixD (cs.map D.int).length i).bind (fun j => (cs.map D.int)[j]?) = _
  unfold ixD
  rw [if_pos h, if_pos (by rw [List.length_map]; exact h2)]
  show (cs.map D.int)[i.toNat]? = _
  rw [List.getElem?_map, List.getElem?_eq_getElem z]
  rfl
theorem powT : binD .pow (.int 10) (.int 18) = some (.int 1000000000000000000) := by rfl
theorem draw1 (cs : List Int) (hcs : ∀ x ∈ cs, 0 ≤ x) (i a b c m : Int) (u v w : Sl) (hi : 0 ≤ i) (ha : 0 ≤ a) (hb : 0 ≤ b ∧ b < 2147483647) : ∃ i' a' b' v', 0 ≤ i' ∧ 0 ≤ a' ∧ 0 ≤ b' ∧ b' < 2147483647 ∧ evS (cfOf P0 0) (S_draw.head (by decide)) (handE (cs.map .int) i a b c m u v w) none = ok (.nx (handE (cs.map .int) i' a' b' c m u v' w)) none := by
  have ix1 : ixD 5 1 = some 1 := rfl
  have ix2 : ixD 5 2 = some 2 := rfl
  have ix3 : ixD 5 3 = some 3 := rfl
  by_cases z : a = 0
  · by_cases y : i < cs.length
    · obtain ⟨x, hx, ex⟩ := sub_int hi y
      have x0 := hcs x hx
      have g := fm (x := b * 69621 + x + 181) (m := 2147483629) (by decide)
      by_cases t : 1000000000000000000 ≤ x
      · refine ⟨i + 1, x, (b * 69621 + x + 181).fmod 2147483629, .v (.int x), by omega, x0, g.1, by omega, ?_⟩
        simp only [handE, S_draw, List.head, evSs, evS, evT, evAll, evE, evBs, bor, Env.at, List.getD_cons_zero, List.getD_cons_succ, Sl.bor.eq_1, Sl.bor.eq_2, Sl.val.eq_1, lift_some, bnd_ok, h0, h1, h2, h3, h4, addI, List.length_cons, List.length_nil, Nat.zero_add, Nat.reduceAdd, ix1, ix2, ix3, List.set_cons_zero, List.set_cons_succ, intI, cEq, cLt, cGe, tBl, lenL, List.length_map, decide_eq_true z, decide_eq_true y, decide_eq_true t, if_pos, ex, mulW (i := b) (j := 69621) (by omega) (by decide), modD (show (2147483629 : Int) ≠ 0 by decide), powT]
      · refine ⟨i + 1, a, (b * 69621 + x + 181).fmod 2147483629, .v (.int x), by omega, ha, g.1, by omega, ?_⟩
        simp only [handE, S_draw, List.head, evSs, evS, evT, evAll, evE, evBs, bor, Env.at, List.getD_cons_zero, List.getD_cons_succ, Sl.bor.eq_1, Sl.bor.eq_2, Sl.val.eq_1, lift_some, bnd_ok, h0, h1, h2, h3, h4, addI, List.length_cons, List.length_nil, Nat.zero_add, Nat.reduceAdd, ix1, ix2, ix3, List.set_cons_zero, List.set_cons_succ, intI, cEq, cLt, cGe, tBl, lenL, List.length_map, decide_eq_true z, decide_eq_true y, decide_eq_false t, if_pos, ex, mulW (i := b) (j := 69621) (by omega) (by decide), modD (show (2147483629 : Int) ≠ 0 by decide), powT, Bool.false_eq_true, if_false]
    · refine ⟨i, a, b, v, hi, ha, hb.1, hb.2, ?_⟩
      simp only [handE, S_draw, List.head, evSs, evS, evT, evAll, evE, evBs, bor, Env.at, List.getD_cons_zero, List.getD_cons_succ, Sl.bor.eq_2, lift_some, bnd_ok, h0, h1, h2, cEq, cLt, tBl, lenL, List.length_map, decide_eq_true z, decide_eq_false y, if_pos, Bool.false_eq_true, if_false]
  · refine ⟨i, a, b, v, hi, ha, hb.1, hb.2, ?_⟩
    simp only [handE, S_draw, List.head, evSs, evS, evT, evAll, evE, evBs, bor, Env.at, List.getD_cons_zero, List.getD_cons_succ, Sl.bor.eq_2, lift_some, bnd_ok, h0, h1, h2, cEq, cLt, tBl, lenL, List.length_map, decide_eq_false z, if_pos, Bool.false_eq_true, if_false]
end Ev
set_option maxHeartbeats 1000000
/-! PlStep: the evaluator, step by step. -/
namespace Ev
open PySem
/-- a def of the program -/
class Has (P : Pg) (f : Str) (fn : outParam Fn) : Prop where
  fns : P.fns f = some fn
  prim : P.prim f = none
class Low (P : Pg) : Prop where
  nw : P.nwL ≤ 5
def finK : Fl → St → Out D := fun r s => match r with
  | .nx _ => ok .non s
  | .ret _ d => ok d s
  | _ => none
theorem call_has {P : Pg} (f : Str) {fn : Fn} [h : Has P f fn] [l : Low P] (n : Nat) (ds : List D) (s : St) (hl : ds.length = fn.par) : call P (n + 6) f ds s = bnd (evSs (cfOf P (n + 5)) fn.body (startE fn.slots ds) s) finK := by
  rw [call_succ]
  unfold lvl
  simp only [h.prim, h.fns]
  rw [if_pos (by have := l.nw; omega)]
  unfold runFn
  rw [if_pos hl]
  rfl
noncomputable section
def evO (X : Cf) (c : C) (ρ : Env) (s : St) : Out D := bor c ρ s (evE X c ρ s)
def binK1 (X : Cf) (o : Bop) (b : C) (ρ : Env) : D → St → Out D := fun x s => bnd (evO X b ρ s) fun y s => lift (binD o x y) s
def binK2 (o : Bop) (x : D) : D → St → Out D := fun y s => lift (binD o x y) s
def cmpK1 (X : Cf) (o : Cop) (b : C) (ρ : Env) : D → St → Out D := fun x s => bnd (evO X b ρ s) fun y s => lift (cmpD o x y) s
def cmpK2 (o : Cop) (x : D) : D → St → Out D := fun y s => lift (cmpD o x y) s
def tupK : List D → St → Out D := fun ds s => lift (guardD (decide (ds.length ≤ lim)) (.tup ds)) s
def lstK : List D → St → Out D := fun ds s => lift (guardD (decide (ds.length ≤ lim)) (.lst ds)) s
def negK : D → St → Out D := fun x s => lift (negD x) s
def chK1 (X : Cf) (o p : Cop) (b c : C) (ρ : Env) : D → St → Out D := fun x s => bnd (evE X b ρ s) fun y s => bnd (lift (cmpD o x y) s) fun z s => match z with
    | .bl true => bnd (evE X c ρ s) fun w s => lift (cmpD p y w) s
    | .bl false => ok (.bl false) s
    | _ => none
def chK2 (X : Cf) (o p : Cop) (c : C) (ρ : Env) (x : D) : D → St → Out D := fun y s => bnd (lift (cmpD o x y) s) fun z s => match z with
    | .bl true => bnd (evE X c ρ s) fun w s => lift (cmpD p y w) s
    | .bl false => ok (.bl false) s
    | _ => none
def chK3 (X : Cf) (p : Cop) (c : C) (ρ : Env) (y : D) : D → St → Out D := fun z s => match z with
    | .bl true => bnd (evE X c ρ s) fun w s => lift (cmpD p y w) s
    | .bl false => ok (.bl false) s
    | _ => none
def andK (X : Cf) (cs : List C) (ρ : Env) : D → St → Out D := fun x s => match x with
    | .bl true => evAnd X cs ρ s
    | .bl false => ok (.bl false) s
    | _ => none
def orK (X : Cf) (cs : List C) (ρ : Env) : D → St → Out D := fun x s => match x with
    | .bl true => ok (.bl true) s
    | .bl false => evOr X cs ρ s
    | _ => none
def notK : D → St → Out D := fun x s => match x with
    | .bl b => ok (.bl (!b)) s
    | _ => none
def iteK (X : Cf) (a b : C) (ρ : Env) : Bool → St → Out D := fun c s => if c = true then evE X a ρ s else evE X b ρ s
def subK1 (X : Cf) (i : C) (ρ : Env) : D → St → Out D := fun x s => bnd (evE X i ρ s) fun y s => lift (subD x y) s
def subK2 (x : D) : D → St → Out D := fun y s => lift (subD x y) s
def slK1 (X : Cf) (lo hi : Option C) (ρ : Env) : D → St → Out D := fun x s => bnd (evP X lo ρ s) fun l s => bnd (evP X hi ρ s) fun h s => lift (sliceD x l h) s
def slK2 (X : Cf) (hi : Option C) (ρ : Env) (x : D) : Option Int → St → Out D := fun l s => bnd (evP X hi ρ s) fun h s => lift (sliceD x l h) s
def slK3 (x : D) (l : Option Int) : Option Int → St → Out D := fun h s => lift (sliceD x l h) s
def callK (X : Cf) (f : Str) : List D → St → Out D := fun ds s => X.cl f ds s
def newK (X : Cf) (c : Str) : List D → St → Out D := fun ds s => lift (X.nw c ds) s
def bltK (b : Blt) : List D → St → Out D := fun ds s => lift (bltD b ds) s
def attrK (X : Cf) (f : Str) : D → St → Out D := fun x s => lift (attrD X.fl x f) s
def idxK1 (X : Cf) (b : C) (ρ : Env) : D → St → Out D := fun x s => match x with
    | .lst xs => bnd (evO X b ρ s) fun y s => lift (indexD xs y) s
    | _ => none
def idxK2 (xs : List D) : D → St → Out D := fun y s => lift (indexD xs y) s
def isiK (ts : List Str) : D → St → Out D := fun x s => lift ((isiD x ts).map .bl) s
def revK : D → St → Out D := fun x s => match x with
    | .lst xs => ok (.lst xs.reverse) s
    | _ => none
def compE (X : Cf) (e : C) (ρ : Env) : Bool → St → Out (Option D) := fun c s => if c = true then bnd (evE X e ρ s) fun y s => ok (some y) s else ok none s
def someK : D → St → Out (Option D) := fun y s => ok (some y) s
def compF (X : Cf) (own : List Nat) (g : G) (t : Option T) (e : C) (ρ : Env) : D → St → Out (Option D) := fun d s => match bindG g d (wipeE ρ own) with
      | some ρ' => bnd (evTo X t ρ' s) fun c s => if c = true then bnd (evE X e ρ' s) fun y s => ok (some y) s else ok none s
      | none => none
def lst1K : List D → St → Out D := fun ys s => ok (.lst ys) s
def compK (X : Cf) (own : List Nat) (g : G) (t : Option T) (e : C) (ρ : Env) : List D → St → Out D := fun ds s => if ds.length ≤ lim then bnd (mute (mapGo (compF X own g t e ρ) ds s)) lst1K else none
def dcompE (X : Cf) (k v : C) (ρ : Env) : Bool → St → Out (Option (D × D)) := fun c s => if c = true then bnd (evE X k ρ s) fun y s => bnd (evE X v ρ s) fun z s => ok (some (y, z)) s else ok none s
def dcompF (X : Cf) (own : List Nat) (g : G) (t : Option T) (k v : C) (ρ : Env) : D → St → Out (Option (D × D)) := fun d s => match bindG g d (wipeE ρ own) with
      | some ρ' => bnd (evTo X t ρ' s) fun c s => if c = true then bnd (evE X k ρ' s) fun y s => bnd (evE X v ρ' s) fun z s => ok (some (y, z)) s else ok none s
      | none => none
def pairK1 (X : Cf) (v : C) (ρ : Env) : D → St → Out (Option (D × D)) := fun y s => bnd (evE X v ρ s) fun z s => ok (some (y, z)) s
def pairK2 (y : D) : D → St → Out (Option (D × D)) := fun z s => ok (some (y, z)) s
def dct1K : List (D × D) → St → Out D := fun kvs s => ok (.dct kvs) s
def dcompK (X : Cf) (own : List Nat) (g : G) (t : Option T) (k v : C) (ρ : Env) : List D → St → Out D := fun ds s => if ds.length ≤ lim then bnd (mute (dictGo (dcompF X own g t k v ρ) ds [] s)) dct1K else none
def esK (X : Cf) (cs : List C) (ρ : Env) : D → St → Out (List D) := fun d s => bnd (evEs X cs ρ s) fun ds s => ok (d :: ds) s
def bsK (X : Cf) (cs : List C) (ρ : Env) : D → St → Out (List D) := fun d s => bnd (evBs X cs ρ s) fun ds s => ok (d :: ds) s
def consK (d : D) : List D → St → Out (List D) := fun ds s => ok (d :: ds) s
def intOK : D → St → Out (Option Int) := fun x s => match x with
    | .int i => ok (some i) s
    | _ => none
def truK : D → St → Out Bool := fun x s => lift (truD x) s
def tnotK : Bool → St → Out Bool := fun b s => ok (!b) s
def tallK (X : Cf) (ts : List T) (ρ : Env) : Bool → St → Out Bool := fun b s => if b = true then evAll X ts ρ s else ok false s
def tanyK (X : Cf) (ts : List T) (ρ : Env) : Bool → St → Out Bool := fun b s => if b = true then ok true s else evAny X ts ρ s
def itemsK : D → St → Out (List D) := fun x s => lift (items x) s
def rng1K : D → St → Out (List D) := fun x s => match x with
    | .int n => if rngG 0 n = true then ok (rngD 0 n) s else none
    | _ => none
def rng2K1 (X : Cf) (b : C) (ρ : Env) : D → St → Out (List D) := fun x s => bnd (evE X b ρ s) fun y s => match x, y with
    | .int i, .int j => if rngG i j = true then ok (rngD i j) s else none
    | _, _ => none
def rng2K2 (x : D) : D → St → Out (List D) := fun y s => match x, y with
    | .int i, .int j => if rngG i j = true then ok (rngD i j) s else none
    | _, _ => none
def enD (xs : List D) : List D := xs.mapIdx fun i d => .tup [.int (i : Nat), d]
def enumK : D → St → Out (List D) := fun x s => bnd (lift (items x) s) fun xs s => ok (enD xs) s
def zipD (xs ys : List D) : List D := (xs.zip ys).map fun p => .tup [p.1, p.2]
def zipK1 (X : Cf) (w : Bool) (b : C) (ρ : Env) : D → St → Out (List D) := fun x s => bnd (borIf w b ρ s (evE X b ρ s)) fun y s => match x, y with
    | .lst xs, .lst ys => ok (zipD xs ys) s
    | .tup xs, .tup ys => ok (zipD xs ys) s
    | _, _ => none
def zipK2 (x : D) : D → St → Out (List D) := fun y s => match x, y with
    | .lst xs, .lst ys => ok (zipD xs ys) s
    | .tup xs, .tup ys => ok (zipD xs ys) s
    | _, _ => none
def asgK (i : Nat) (ρ : Env) : D → St → Out Fl := fun d s => ok (.nx (ρ.set i (.v d))) s
def ownK (i : Nat) (ρ : Env) : D → St → Out Fl := fun d s => bnd (lift (ownD d) s) fun sl s => ok (.nx (ρ.set i sl)) s
def nxK : Env → St → Out Fl := fun ρ' s => ok (.nx ρ') s
def parK (ts : List (Nat × Bool)) (ρ : Env) : List D → St → Out Fl := fun ds s => bnd (lift (storePar ts ds ρ) s) nxK
def unpK (g : G) (ρ : Env) : D → St → Out Fl := fun d s => bnd (lift (bindG g d ρ) s) nxK
def retK (ρ : Env) : D → St → Out Fl := fun d s => ok (.ret ρ d) s
def expK (ρ : Env) : D → St → Out Fl := fun _ s => ok (.nx ρ) s
def appK (i : Nat) (ρ : Env) (ds : List D) : D → St → Out Fl := fun d s => if ds.length < lim then ok (.nx (ρ.set i (.own (.lst (ds ++ [d]))))) s else none
def extK (i : Nat) (ρ : Env) (ds : List D) : D → St → Out Fl := fun d s => match d with
      | .lst xs => if ds.length + xs.length ≤ lim then ok (.nx (ρ.set i (.own (.lst (ds ++ xs))))) s else none
      | _ => none
def setK1 (X : Cf) (i : Nat) (k : C) (ρ : Env) : D → St → Out Fl := fun d s => match ρ.at i with
    | .own (.lst ds) => bnd (evE X k ρ s) fun j s => match j with
      | .int j => (match ixD ds.length j with
        | some n => ok (.nx (ρ.set i (.own (.lst (ds.set n d))))) s
        | none => none)
      | _ => none
    | .own (.dct kvs) => bnd (evE X k ρ s) fun j s => if (nkT j).isSome = true ∧ kvs.length < lim then ok (.nx (ρ.set i (.own (.dct (dPut kvs j d))))) s else none
    | _ => none
def setLK (i : Nat) (ρ : Env) (ds : List D) (d : D) : D → St → Out Fl := fun j s => match j with
      | .int j => (match ixD ds.length j with
        | some n => ok (.nx (ρ.set i (.own (.lst (ds.set n d))))) s
        | none => none)
      | _ => none
def setDK (i : Nat) (ρ : Env) (kvs : List (D × D)) (d : D) : D → St → Out Fl := fun j s => if (nkT j).isSome = true ∧ kvs.length < lim then ok (.nx (ρ.set i (.own (.dct (dPut kvs j d))))) s else none
def setSl (X : Cf) (i : Nat) (k : C) (ρ : Env) (d : D) (s : St) : Sl → Out Fl := fun z => match z with
    | .own (.lst ds) => bnd (evE X k ρ s) (setLK i ρ ds d)
    | .own (.dct kvs) => bnd (evE X k ρ s) (setDK i ρ kvs d)
    | _ => none
def appSl (X : Cf) (i : Nat) (c : C) (ρ : Env) (s : St) : Sl → Out Fl := fun z => match z with
    | .own (.lst ds) => bnd (evE X c ρ s) (appK i ρ ds)
    | _ => none
def extSl (X : Cf) (i : Nat) (c : C) (ρ : Env) (s : St) : Sl → Out Fl := fun z => match z with
    | .own (.lst ds) => bnd (evO X c ρ s) (extK i ρ ds)
    | _ => none
def frzSl (i : Nat) (ρ : Env) (s : St) : Sl → Out Fl := fun z => match z with
    | .own d => ok (.nx (ρ.set i (.v d))) s
    | _ => none
def augK2 (i : Nat) (ρ : Env) : D → St → Out Fl := fun z s => ok (.nx (ρ.set i (.v z))) s
def augK (i : Nat) (o : Bop) (ρ : Env) (x : D) : D → St → Out Fl := fun y s => bnd (lift (augD o x y) s) (augK2 i ρ)
def augSl (X : Cf) (i : Nat) (o : Bop) (c : C) (ρ : Env) (s : St) : Option D → Out Fl := fun z => match z with
    | some x => bnd (evE X c ρ s) (augK i o ρ x)
    | none => none
def iffK (X : Cf) (a b : List S) (ρ : Env) : Bool → St → Out Fl := fun c s => if c = true then evSs X a ρ s else evSs X b ρ s
def loopGo (X : Cf) (t : T) (b : List S) (ρ : Env) (s : St) : Out Fl := wh (whStep (evT X t) (evSs X b)) (ρ, s)
def forK (X : Cf) (g : G) (b : List S) : D → Env → St → Out Fl := fun d ρ s => bnd (lift (bindG g d ρ) s) fun ρ' s => evSs X b ρ' s
def forK2 (X : Cf) (b : List S) : Env → St → Out Fl := fun ρ' s => evSs X b ρ' s
def forD (X : Cf) (g : G) (b : List S) (ρ : Env) : List D → St → Out Fl := fun ds s => forGo (forK X g b) ds ρ s
def raiK (x : Str) : D → St → Out Fl := fun d s => some (.ex ⟨x, some d⟩, s)
def seqK (X : Cf) (r : List S) : Fl → St → Out Fl := fun f s => match f with
    | .nx ρ' => evSs X r ρ' s
    | f => ok f s
end
section
variable (X : Cf) (ρ : Env) (s : St)
theorem eO_var (i : Nat) : evO X (.var i) ρ s = lift (ρ.at i).bor s := rfl
theorem eO_int (i : Int) : evO X (.int i) ρ s = ok (.int i) s := rfl
theorem eO_bl (i : Bool) : evO X (.bl i) ρ s = ok (.bl i) s := rfl
theorem eO_non : evO X .non ρ s = ok .non s := rfl
theorem eO_str (i : Str) : evO X (.str i) ρ s = ok (.str i) s := rfl
theorem eO_glob (i : Str) : evO X (.glob i) ρ s = evE X (.glob i) ρ s := rfl
theorem eO_tup (es : List C) : evO X (.tup es) ρ s = evE X (.tup es) ρ s := rfl
theorem eO_lst (es : List C) : evO X (.lst es) ρ s = evE X (.lst es) ρ s := rfl
theorem eO_dct0 : evO X .dct0 ρ s = ok (.dct []) s := rfl
theorem eO_bin (o : Bop) (a b : C) : evO X (.bin o a b) ρ s = evE X (.bin o a b) ρ s := rfl
theorem eO_neg (a : C) : evO X (.neg a) ρ s = evE X (.neg a) ρ s := rfl
theorem eO_cmp (o : Cop) (a b : C) : evO X (.cmp o a b) ρ s = evE X (.cmp o a b) ρ s := rfl
theorem eO_chain (o p : Cop) (a b c : C) : evO X (.chain o p a b c) ρ s = evE X (.chain o p a b c) ρ s := rfl
theorem eO_andv (es : List C) : evO X (.andv es) ρ s = evE X (.andv es) ρ s := rfl
theorem eO_orv (es : List C) : evO X (.orv es) ρ s = evE X (.orv es) ρ s := rfl
theorem eO_notv (a : C) : evO X (.notv a) ρ s = evE X (.notv a) ρ s := rfl
theorem eO_ite (t : T) (a b : C) : evO X (.ite t a b) ρ s = evE X (.ite t a b) ρ s := rfl
theorem eO_sub (a b : C) : evO X (.sub a b) ρ s = evE X (.sub a b) ρ s := rfl
theorem eO_slice (a : C) (lo hi : Option C) : evO X (.slice a lo hi) ρ s = evE X (.slice a lo hi) ρ s := rfl
theorem eO_rev (a : C) : evO X (.rev a) ρ s = evE X (.rev a) ρ s := rfl
theorem eO_call (f : Str) (es : List C) : evO X (.call f es) ρ s = evE X (.call f es) ρ s := rfl
theorem eO_new (f : Str) (es : List C) : evO X (.new f es) ρ s = evE X (.new f es) ρ s := rfl
theorem eO_word (a : C) : evO X (.word a) ρ s = evE X (.word a) ρ s := rfl
theorem eO_blt (f : Blt) (es : List C) : evO X (.blt f es) ρ s = evE X (.blt f es) ρ s := rfl
theorem eO_attr (a : C) (f : Str) : evO X (.attr a f) ρ s = evE X (.attr a f) ρ s := rfl
theorem eO_isi (a : C) (f : List Str) : evO X (.isi a f) ρ s = evE X (.isi a f) ρ s := rfl
theorem eO_index (a b : C) : evO X (.index a b) ρ s = evE X (.index a b) ρ s := rfl
theorem eO_comp (own : List Nat) (g : G) (it : I) (t : Option T) (e : C) : evO X (.comp own g it t e) ρ s = evE X (.comp own g it t e) ρ s := rfl
theorem eO_dcomp (own : List Nat) (g : G) (it : I) (t : Option T) (k v : C) : evO X (.dcomp own g it t k v) ρ s = evE X (.dcomp own g it t k v) ρ s := rfl
theorem eE_var (i : Nat) : evE X (.var i) ρ s = lift (ρ.at i).val s := rfl
theorem eE_int (i : Int) : evE X (.int i) ρ s = ok (.int i) s := rfl
theorem eE_bl (i : Bool) : evE X (.bl i) ρ s = ok (.bl i) s := rfl
theorem eE_non : evE X .non ρ s = ok .non s := rfl
theorem eE_str (i : Str) : evE X (.str i) ρ s = ok (.str i) s := rfl
theorem eE_glob (i : Str) : evE X (.glob i) ρ s = lift (X.gl i) s := rfl
theorem eE_tup (es : List C) : evE X (.tup es) ρ s = bnd (evEs X es ρ s) tupK := rfl
theorem eE_lst (es : List C) : evE X (.lst es) ρ s = bnd (evEs X es ρ s) lstK := rfl
theorem eE_dct0 : evE X .dct0 ρ s = ok (.dct []) s := rfl
theorem eE_bin (o : Bop) (a b : C) : evE X (.bin o a b) ρ s = bnd (evO X a ρ s) (binK1 X o b ρ) := rfl
theorem eE_neg (a : C) : evE X (.neg a) ρ s = bnd (evE X a ρ s) negK := rfl
theorem eE_cmp (o : Cop) (a b : C) : evE X (.cmp o a b) ρ s = bnd (evO X a ρ s) (cmpK1 X o b ρ) := rfl
theorem eE_chain (o p : Cop) (a b c : C) : evE X (.chain o p a b c) ρ s = bnd (evE X a ρ s) (chK1 X o p b c ρ) := rfl
theorem eE_andv (es : List C) : evE X (.andv es) ρ s = evAnd X es ρ s := rfl
theorem eE_orv (es : List C) : evE X (.orv es) ρ s = evOr X es ρ s := rfl
theorem eE_notv (a : C) : evE X (.notv a) ρ s = bnd (evE X a ρ s) notK := rfl
theorem eE_ite (t : T) (a b : C) : evE X (.ite t a b) ρ s = bnd (evT X t ρ s) (iteK X a b ρ) := rfl
theorem eE_sub (a b : C) : evE X (.sub a b) ρ s = bnd (evO X a ρ s) (subK1 X b ρ) := rfl
theorem eE_slice (a : C) (lo hi : Option C) : evE X (.slice a lo hi) ρ s = bnd (evO X a ρ s) (slK1 X lo hi ρ) := rfl
theorem eE_rev (a : C) : evE X (.rev a) ρ s = bnd (evO X a ρ s) revK := rfl
theorem eE_call (f : Str) (es : List C) : evE X (.call f es) ρ s = bnd (evEs X es ρ s) (callK X f) := rfl
theorem eE_new (f : Str) (es : List C) : evE X (.new f es) ρ s = bnd (evEs X es ρ s) (newK X f) := rfl
theorem eE_blt (f : Blt) (es : List C) : evE X (.blt f es) ρ s = bnd (evBs X es ρ s) (bltK f) := rfl
theorem eE_attr (a : C) (f : Str) : evE X (.attr a f) ρ s = bnd (evE X a ρ s) (attrK X f) := rfl
theorem eE_isi (a : C) (f : List Str) : evE X (.isi a f) ρ s = bnd (evE X a ρ s) (isiK f) := rfl
theorem eE_index (a b : C) : evE X (.index a b) ρ s = bnd (evO X a ρ s) (idxK1 X b ρ) := rfl
theorem eE_comp (own : List Nat) (g : G) (it : I) (t : Option T) (e : C) : evE X (.comp own g it t e) ρ s = bnd (evI X true it ρ s) (compK X own g t e ρ) := rfl
theorem eE_dcomp (own : List Nat) (g : G) (it : I) (t : Option T) (k v : C) : evE X (.dcomp own g it t k v) ρ s = bnd (evI X true it ρ s) (dcompK X own g t k v ρ) := rfl
theorem k_bin1 (o : Bop) (b : C) (x : D) : binK1 X o b ρ x s = bnd (evO X b ρ s) (binK2 o x) := rfl
theorem k_bin2 (o : Bop) (x y : D) : binK2 o x y s = lift (binD o x y) s := rfl
theorem k_cmp1 (o : Cop) (b : C) (x : D) : cmpK1 X o b ρ x s = bnd (evO X b ρ s) (cmpK2 o x) := rfl
theorem k_cmp2 (o : Cop) (x y : D) : cmpK2 o x y s = lift (cmpD o x y) s := rfl
theorem k_tup (ds : List D) : tupK ds s = lift (guardD (decide (ds.length ≤ lim)) (.tup ds)) s := rfl
theorem k_lst (ds : List D) : lstK ds s = lift (guardD (decide (ds.length ≤ lim)) (.lst ds)) s := rfl
theorem k_neg (x : D) : negK x s = lift (negD x) s := rfl
theorem k_ch1 (o p : Cop) (b c : C) (x : D) : chK1 X o p b c ρ x s = bnd (evE X b ρ s) (chK2 X o p c ρ x) := rfl
theorem k_ch2 (o p : Cop) (c : C) (x y : D) : chK2 X o p c ρ x y s = bnd (lift (cmpD o x y) s) (chK3 X p c ρ y) := rfl
theorem k_ch3t (p : Cop) (c : C) (y : D) : chK3 X p c ρ y (.bl true) s = bnd (evE X c ρ s) (cmpK2 p y) := rfl
theorem k_ch3f (p : Cop) (c : C) (y : D) : chK3 X p c ρ y (.bl false) s = ok (.bl false) s := rfl
theorem k_andt (cs : List C) : andK X cs ρ (.bl true) s = evAnd X cs ρ s := rfl
theorem k_andf (cs : List C) : andK X cs ρ (.bl false) s = ok (.bl false) s := rfl
theorem e_and1 (c : C) : evAnd X [c] ρ s = evE X c ρ s := rfl
theorem e_and2 (c d : C) (cs : List C) : evAnd X (c :: d :: cs) ρ s = bnd (evE X c ρ s) (andK X (d :: cs) ρ) := rfl
theorem k_ort (cs : List C) : orK X cs ρ (.bl true) s = ok (.bl true) s := rfl
theorem k_orf (cs : List C) : orK X cs ρ (.bl false) s = evOr X cs ρ s := rfl
theorem e_or1 (c : C) : evOr X [c] ρ s = evE X c ρ s := rfl
theorem e_or2 (c d : C) (cs : List C) : evOr X (c :: d :: cs) ρ s = bnd (evE X c ρ s) (orK X (d :: cs) ρ) := rfl
theorem k_not (b : Bool) : notK (.bl b) s = ok (.bl (!b)) s := rfl
theorem k_itet (a b : C) : iteK X a b ρ true s = evE X a ρ s := rfl
theorem k_itef (a b : C) : iteK X a b ρ false s = evE X b ρ s := rfl
theorem k_sub1 (i : C) (x : D) : subK1 X i ρ x s = bnd (evE X i ρ s) (subK2 x) := rfl
theorem k_sub2 (x y : D) : subK2 x y s = lift (subD x y) s := rfl
theorem k_sl1 (lo hi : Option C) (x : D) : slK1 X lo hi ρ x s = bnd (evP X lo ρ s) (slK2 X hi ρ x) := rfl
theorem k_sl2 (hi : Option C) (x : D) (l : Option Int) : slK2 X hi ρ x l s = bnd (evP X hi ρ s) (slK3 x l) := rfl
theorem k_sl3 (x : D) (l h : Option Int) : slK3 x l h s = lift (sliceD x l h) s := rfl
theorem e_p0 : evP X none ρ s = ok none s := rfl
theorem e_p1 (c : C) : evP X (some c) ρ s = bnd (evE X c ρ s) intOK := rfl
theorem k_into (i : Int) : intOK (.int i) s = ok (some i) s := rfl
theorem k_call (P : Pg) (n : Nat) (f : Str) (ds : List D) : callK (cfOf P n) f ds s = call P n f ds s := rfl
theorem k_new (P : Pg) (n : Nat) (f : Str) (ds : List D) : newK (cfOf P n) f ds s = lift (P.nw f ds) s := rfl
theorem k_blt (f : Blt) (ds : List D) : bltK f ds s = lift (bltD f ds) s := rfl
theorem k_attr (P : Pg) (n : Nat) (f : Str) (x : D) : attrK (cfOf P n) f x s = lift (attrD P.fl x f) s := rfl
theorem k_glob (P : Pg) (n : Nat) (x : Str) : (cfOf P n).gl x = P.gl x := rfl
theorem k_idx1 (b : C) (xs : List D) : idxK1 X b ρ (.lst xs) s = bnd (evO X b ρ s) (idxK2 xs) := rfl
theorem k_idx2 (xs : List D) (y : D) : idxK2 xs y s = lift (indexD xs y) s := rfl
theorem k_isi (ts : List Str) (x : D) : isiK ts x s = lift ((isiD x ts).map .bl) s := rfl
theorem k_rev (xs : List D) : revK (.lst xs) s = ok (.lst xs.reverse) s := rfl
theorem e_es0 : evEs X [] ρ s = ok [] s := rfl
theorem e_esS (c : C) (cs : List C) : evEs X (c :: cs) ρ s = bnd (evE X c ρ s) (esK X cs ρ) := rfl
theorem k_es (cs : List C) (d : D) : esK X cs ρ d s = bnd (evEs X cs ρ s) (consK d) := rfl
theorem e_bs0 : evBs X [] ρ s = ok [] s := rfl
theorem e_bsS (c : C) (cs : List C) : evBs X (c :: cs) ρ s = bnd (evO X c ρ s) (bsK X cs ρ) := rfl
theorem k_bs (cs : List C) (d : D) : bsK X cs ρ d s = bnd (evBs X cs ρ s) (consK d) := rfl
theorem k_cons (d : D) (ds : List D) : consK d ds s = ok (d :: ds) s := rfl
theorem t_e (c : C) : evT X (.e c) ρ s = bnd (evO X c ρ s) truK := rfl
theorem t_all (ts : List T) : evT X (.all ts) ρ s = evAll X ts ρ s := rfl
theorem t_any (ts : List T) : evT X (.any ts) ρ s = evAny X ts ρ s := rfl
theorem t_not (t : T) : evT X (.not t) ρ s = bnd (evT X t ρ s) tnotK := rfl
theorem k_tru (x : D) : truK x s = lift (truD x) s := rfl
theorem k_trub (b : Bool) : truK (.bl b) s = ok b s := rfl
theorem k_tnot (b : Bool) : tnotK b s = ok (!b) s := rfl
theorem e_all0 : evAll X [] ρ s = ok true s := rfl
theorem e_allS (t : T) (ts : List T) : evAll X (t :: ts) ρ s = bnd (evT X t ρ s) (tallK X ts ρ) := rfl
theorem k_tallt (ts : List T) : tallK X ts ρ true s = evAll X ts ρ s := rfl
theorem k_tallf (ts : List T) : tallK X ts ρ false s = ok false s := rfl
theorem e_any0 : evAny X [] ρ s = ok false s := rfl
theorem e_anyS (t : T) (ts : List T) : evAny X (t :: ts) ρ s = bnd (evT X t ρ s) (tanyK X ts ρ) := rfl
theorem k_tanyt (ts : List T) : tanyK X ts ρ true s = ok true s := rfl
theorem k_tanyf (ts : List T) : tanyK X ts ρ false s = evAny X ts ρ s := rfl
theorem e_to0 : evTo X none ρ s = ok true s := rfl
theorem e_to1 (t : T) : evTo X (some t) ρ s = evT X t ρ s := rfl
theorem i_seqt (c : C) : evI X true (.seq c) ρ s = bnd (evO X c ρ s) itemsK := rfl
theorem i_seqf (c : C) : evI X false (.seq c) ρ s = bnd (evE X c ρ s) itemsK := rfl
theorem k_items (x : D) : itemsK x s = lift (items x) s := rfl
theorem i_rng1 (w : Bool) (c : C) : evI X w (.rng1 c) ρ s = bnd (evE X c ρ s) rng1K := rfl
theorem k_rng1 (n : Int) : rng1K (.int n) s = if rngG 0 n = true then ok (rngD 0 n) s else none := rfl
theorem i_rng2 (w : Bool) (a b : C) : evI X w (.rng2 a b) ρ s = bnd (evE X a ρ s) (rng2K1 X b ρ) := rfl
theorem k_rng2 (b : C) (x : D) : rng2K1 X b ρ x s = bnd (evE X b ρ s) (rng2K2 x) := rfl
theorem k_rng3 (i j : Int) : rng2K2 (.int i) (.int j) s = if rngG i j = true then ok (rngD i j) s else none := rfl
theorem i_enumt (c : C) : evI X true (.enum c) ρ s = bnd (evO X c ρ s) enumK := rfl
theorem i_enumf (c : C) : evI X false (.enum c) ρ s = bnd (evE X c ρ s) enumK := rfl
theorem k_enuml (xs : List D) : enumK (.lst xs) s = ok (enD xs) s := rfl
theorem k_enumt (xs : List D) : enumK (.tup xs) s = ok (enD xs) s := rfl
theorem i_zipt (a b : C) : evI X true (.zip a b) ρ s = bnd (evO X a ρ s) (zipK1 X true b ρ) := rfl
theorem i_zipf (a b : C) : evI X false (.zip a b) ρ s = bnd (evE X a ρ s) (zipK1 X false b ρ) := rfl
theorem k_zip1t (b : C) (x : D) : zipK1 X true b ρ x s = bnd (evO X b ρ s) (zipK2 x) := rfl
theorem k_zip1f (b : C) (x : D) : zipK1 X false b ρ x s = bnd (evE X b ρ s) (zipK2 x) := rfl
theorem k_zip2l (xs ys : List D) : zipK2 (.lst xs) (.lst ys) s = ok (zipD xs ys) s := rfl
theorem k_zip2t (xs ys : List D) : zipK2 (.tup xs) (.tup ys) s = ok (zipD xs ys) s := rfl
theorem k_comp (own : List Nat) (g : G) (t : Option T) (e : C) (ds : List D) : compK X own g t e ρ ds s = if ds.length ≤ lim then bnd (mute (mapGo (compF X own g t e ρ) ds s)) lst1K else none := rfl
theorem k_lst1 (ds : List D) : lst1K ds s = ok (.lst ds) s := rfl
theorem k_dcomp (own : List Nat) (g : G) (t : Option T) (k v : C) (ds : List D) : dcompK X own g t k v ρ ds s = if ds.length ≤ lim then bnd (mute (dictGo (dcompF X own g t k v ρ) ds [] s)) dct1K else none := rfl
theorem k_dct1 (ds : List (D × D)) : dct1K ds s = ok (.dct ds) s := rfl
theorem k_mute (ds : List D) : mute (ok ds s) = ok ds s := rfl
theorem k_muted (ds : List (D × D)) : mute (ok ds s) = ok ds s := rfl
def compFK (X : Cf) (t : Option T) (e : C) (s : St) : Option Env → Out (Option D) := fun z => match z with
  | some ρ' => bnd (evTo X t ρ' s) (compE X e ρ')
  | none => none
theorem c_f (own : List Nat) (g : G) (t : Option T) (e : C) (d : D) : compF X own g t e ρ d s = compFK X t e s (bindG g d (wipeE ρ own)) := by
  unfold compF compFK
  cases bindG g d (wipeE ρ own) <;> rfl
theorem c_fk (t : Option T) (e : C) (ρ' : Env) : compFK X t e s (some ρ') = bnd (evTo X t ρ' s) (compE X e ρ') := rfl
theorem k_compt (e : C) : compE X e ρ true s = bnd (evE X e ρ s) someK := rfl
theorem k_compf (e : C) : compE X e ρ false s = ok none s := rfl
theorem k_some (y : D) : someK y s = ok (some y) s := rfl
def dcompFK (X : Cf) (t : Option T) (k v : C) (s : St) : Option Env → Out (Option (D × D)) := fun z => match z with
  | some ρ' => bnd (evTo X t ρ' s) (dcompE X k v ρ')
  | none => none
theorem dc_f (own : List Nat) (g : G) (t : Option T) (k v : C) (d : D) : dcompF X own g t k v ρ d s = dcompFK X t k v s (bindG g d (wipeE ρ own)) := by
  unfold dcompF dcompFK
  cases bindG g d (wipeE ρ own) <;> rfl
theorem dc_fk (t : Option T) (k v : C) (ρ' : Env) : dcompFK X t k v s (some ρ') = bnd (evTo X t ρ' s) (dcompE X k v ρ') := rfl
theorem k_dcompt (k v : C) : dcompE X k v ρ true s = bnd (evE X k ρ s) (pairK1 X v ρ) := rfl
theorem k_dcompf (k v : C) : dcompE X k v ρ false s = ok none s := rfl
theorem k_pair1 (v : C) (y : D) : pairK1 X v ρ y s = bnd (evE X v ρ s) (pairK2 y) := rfl
theorem k_pair2 (y z : D) : pairK2 y z s = ok (some (y, z)) s := rfl
theorem s_asg (i : Nat) (c : C) : evS X (.asg i c) ρ s = bnd (evE X c ρ s) (asgK i ρ) := rfl
theorem k_asg (i : Nat) (d : D) : asgK i ρ d s = ok (.nx (ρ.set i (.v d))) s := rfl
theorem s_own (i : Nat) (c : C) : evS X (.own i c) ρ s = bnd (evE X c ρ s) (ownK i ρ) := rfl
theorem k_ownl (i : Nat) (ds : List D) : ownK i ρ (.lst ds) s = ok (.nx (ρ.set i (.own (.lst ds)))) s := rfl
theorem k_ownd (i : Nat) (ds : List (D × D)) : ownK i ρ (.dct ds) s = ok (.nx (ρ.set i (.own (.dct ds)))) s := rfl
theorem s_par (ts : List (Nat × Bool)) (cs : List C) : evS X (.par ts cs) ρ s = bnd (evEs X cs ρ s) (parK ts ρ) := rfl
theorem k_par (ts : List (Nat × Bool)) (ds : List D) : parK ts ρ ds s = bnd (lift (storePar ts ds ρ) s) nxK := rfl
theorem k_nx : nxK ρ s = ok (.nx ρ) s := rfl
theorem k_par0 : storePar [] [] ρ = some ρ := rfl
theorem k_parv (i : Nat) (ts : List (Nat × Bool)) (d : D) (ds : List D) : storePar ((i, false) :: ts) (d :: ds) ρ = storePar ts ds (ρ.set i (.v d)) := rfl
theorem k_parl (i : Nat) (ts : List (Nat × Bool)) (d : List D) (ds : List D) : storePar ((i, true) :: ts) (.lst d :: ds) ρ = storePar ts ds (ρ.set i (.own (.lst d))) := rfl
theorem k_pard (i : Nat) (ts : List (Nat × Bool)) (d : List (D × D)) (ds : List D) : storePar ((i, true) :: ts) (.dct d :: ds) ρ = storePar ts ds (ρ.set i (.own (.dct d))) := rfl
theorem s_unp (g : G) (c : C) : evS X (.unp g c) ρ s = bnd (evE X c ρ s) (unpK g ρ) := rfl
theorem k_unp (g : G) (d : D) : unpK g ρ d s = bnd (lift (bindG g d ρ) s) nxK := rfl
theorem g_one (i : Nat) (d : D) : bindG (.one i) d ρ = some (ρ.set i (.v d)) := rfl
theorem g_tup (gs : List G) (ds : List D) : bindG (.tup gs) (.tup ds) ρ = bindGs gs ds ρ := rfl
theorem g_nil : bindGs [] [] ρ = some ρ := rfl
theorem g_one1 (i : Nat) (gs : List G) (d : D) (ds : List D) : bindGs (.one i :: gs) (d :: ds) ρ = bindGs gs ds (ρ.set i (.v d)) := rfl
theorem s_ret (c : C) : evS X (.ret c) ρ s = bnd (evE X c ρ s) (retK ρ) := rfl
theorem k_ret (d : D) : retK ρ d s = ok (.ret ρ d) s := rfl
theorem s_retn : evS X .retn ρ s = ok (.ret ρ .non) s := rfl
theorem s_exp (c : C) : evS X (.exp c) ρ s = bnd (evE X c ρ s) (expK ρ) := rfl
theorem k_exp (d : D) : expK ρ d s = ok (.nx ρ) s := rfl
theorem s_app (i : Nat) (c : C) : evS X (.app i c) ρ s = appSl X i c ρ s (ρ.at i) := by
  unfold evS appSl
  cases ρ.at i <;> first | rfl | (rename_i d; cases d <;> rfl)
theorem k_apps (i : Nat) (c : C) (ds : List D) : appSl X i c ρ s (.own (.lst ds)) = bnd (evE X c ρ s) (appK i ρ ds) := rfl
theorem k_app (i : Nat) (ds : List D) (d : D) : appK i ρ ds d s = if ds.length < lim then ok (.nx (ρ.set i (.own (.lst (ds ++ [d]))))) s else none := rfl
theorem s_ext (i : Nat) (c : C) : evS X (.ext i c) ρ s = extSl X i c ρ s (ρ.at i) := by
  unfold evS extSl
  cases ρ.at i <;> first | rfl | (rename_i d; cases d <;> rfl)
theorem k_exts (i : Nat) (c : C) (ds : List D) : extSl X i c ρ s (.own (.lst ds)) = bnd (evO X c ρ s) (extK i ρ ds) := rfl
theorem k_ext (i : Nat) (ds xs : List D) : extK i ρ ds (.lst xs) s = if ds.length + xs.length ≤ lim then ok (.nx (ρ.set i (.own (.lst (ds ++ xs))))) s else none := rfl
def setVK (X : Cf) (i : Nat) (k : C) (ρ : Env) : D → St → Out Fl := fun d s => setSl X i k ρ d s (ρ.at i)
theorem s_set (i : Nat) (k v : C) : evS X (.setI i k v) ρ s = bnd (evE X v ρ s) (setVK X i k ρ) := by
  unfold evS
  congr 1
theorem k_setv (i : Nat) (k : C) (d : D) : setVK X i k ρ d s = setSl X i k ρ d s (ρ.at i) := rfl
theorem k_setl (i : Nat) (k : C) (d : D) (ds : List D) : setSl X i k ρ d s (.own (.lst ds)) = bnd (evE X k ρ s) (setLK i ρ ds d) := rfl
theorem k_setd (i : Nat) (k : C) (d : D) (ds : List (D × D)) : setSl X i k ρ d s (.own (.dct ds)) = bnd (evE X k ρ s) (setDK i ρ ds d) := rfl
theorem k_setdk (i : Nat) (d j : D) (kvs : List (D × D)) : setDK i ρ kvs d j s = if (nkT j).isSome = true ∧ kvs.length < lim then ok (.nx (ρ.set i (.own (.dct (dPut kvs j d))))) s else none := rfl
theorem k_setlk (i : Nat) (d : D) (j : Int) (ds : List D) (n : Nat) (h : ixD ds.length j = some n) : setLK i ρ ds d (.int j) s = ok (.nx (ρ.set i (.own (.lst (ds.set n d))))) s := by
  unfold setLK
  simp only [h]
theorem s_frz (i : Nat) : evS X (.frz i) ρ s = frzSl i ρ s (ρ.at i) := rfl
theorem k_frz (i : Nat) (d : D) : frzSl i ρ s (.own d) = ok (.nx (ρ.set i (.v d))) s := rfl
theorem s_iff (t : T) (a b : List S) : evS X (.iff t a b) ρ s = bnd (evT X t ρ s) (iffK X a b ρ) := rfl
theorem k_ifft (a b : List S) : iffK X a b ρ true s = evSs X a ρ s := rfl
theorem k_ifff (a b : List S) : iffK X a b ρ false s = evSs X b ρ s := rfl
theorem s_loop (t : T) (b : List S) : evS X (.loop t b) ρ s = loopGo X t b ρ s := rfl
theorem s_for (g : G) (it : I) (b : List S) : evS X (.for g it b) ρ s = bnd (evI X false it ρ s) (forD X g b ρ) := rfl
theorem k_for (g : G) (b : List S) (ds : List D) : forD X g b ρ ds s = forGo (forK X g b) ds ρ s := rfl
theorem k_fork (g : G) (b : List S) (d : D) : forK X g b d ρ s = bnd (lift (bindG g d ρ) s) (forK2 X b) := rfl
theorem k_fork2 (b : List S) : forK2 X b ρ s = evSs X b ρ s := rfl
theorem s_pass : evS X .pass ρ s = ok (.nx ρ) s := rfl
theorem s_brk : evS X .brk ρ s = ok (.brk ρ) s := rfl
theorem s_cnt : evS X .cnt ρ s = ok (.cnt ρ) s := rfl
theorem s_aug (i : Nat) (o : Bop) (c : C) : evS X (.aug i o c) ρ s = augSl X i o c ρ s (ρ.at i).val := by
  unfold evS augSl
  cases (ρ.at i).val <;> rfl
theorem k_augs (i : Nat) (o : Bop) (c : C) (x : D) : augSl X i o c ρ s (some x) = bnd (evE X c ρ s) (augK i o ρ x) := rfl
theorem k_aug (i : Nat) (o : Bop) (x y : D) : augK i o ρ x y s = bnd (lift (augD o x y) s) (augK2 i ρ) := rfl
theorem k_aug2 (i : Nat) (z : D) : augK2 i ρ z s = ok (.nx (ρ.set i (.v z))) s := rfl
theorem k_augadd (i j : Int) : augD .add (.int i) (.int j) = some (.int (i + j)) := rfl
theorem k_augsub (i j : Int) : augD .sub (.int i) (.int j) = some (.int (i - j)) := rfl
theorem s_rai0 (x : Str) : evS X (.raise x none) ρ s = some (.ex ⟨x, none⟩, s) := rfl
theorem s_rai1 (x : Str) (c : C) : evS X (.raise x (some c)) ρ s = bnd (evE X c ρ s) (raiK x) := rfl
theorem k_rai (x : Str) (d : D) : raiK x d s = some (.ex ⟨x, some d⟩, s) := rfl
theorem s_nil : evSs X [] ρ s = ok (.nx ρ) s := rfl
theorem s_cons (t : S) (r : List S) : evSs X (t :: r) ρ s = bnd (evS X t ρ s) (seqK X r) := rfl
theorem k_seqn (r : List S) : seqK X r (.nx ρ) s = evSs X r ρ s := rfl
theorem k_seqr (r : List S) (d : D) : seqK X r (.ret ρ d) s = ok (.ret ρ d) s := rfl
theorem k_seqb (r : List S) : seqK X r (.brk ρ) s = ok (.brk ρ) s := rfl
theorem k_seqc (r : List S) : seqK X r (.cnt ρ) s = ok (.cnt ρ) s := rfl
theorem k_finr (d : D) : finK (.ret ρ d) s = ok d s := rfl
theorem k_finn : finK (.nx ρ) s = ok .non s := rfl
end
theorem at0 (a : Sl) (r : List Sl) : Env.at (a :: r) 0 = a := rfl
theorem atS (a : Sl) (r : List Sl) (i : Nat) : Env.at (a :: r) (i + 1) = Env.at r i := rfl
theorem sl_val (d : D) : Sl.val (.v d) = some d := rfl
theorem sl_borv (d : D) : Sl.bor (.v d) = some d := rfl
theorem sl_boro (d : D) : Sl.bor (.own d) = some d := rfl
theorem set0 (a b : Sl) (r : List Sl) : List.set (a :: r) 0 b = b :: r := rfl
theorem setS (a b : Sl) (r : List Sl) (i : Nat) : List.set (a :: r) (i + 1) b = a :: List.set r i b := rfl
theorem wipe0 (ρ : Env) : wipeE ρ [] = ρ := rfl
theorem wipeS (ρ : Env) (v : Nat) (vs : List Nat) : wipeE ρ (v :: vs) = (wipeE ρ vs).set v .no := rfl
theorem st_1 (n : Nat) (a : D) : startE (n + 1) [a] = .v a :: List.replicate n .no := rfl
theorem st_2 (n : Nat) (a b : D) : startE (n + 2) [a, b] = .v a :: .v b :: List.replicate n .no := rfl
theorem st_3 (n : Nat) (a b c : D) : startE (n + 3) [a, b, c] = .v a :: .v b :: .v c :: List.replicate n .no := rfl
theorem st_4 (n : Nat) (a b c d : D) : startE (n + 4) [a, b, c, d] = .v a :: .v b :: .v c :: .v d :: List.replicate n .no := rfl
theorem st_5 (n : Nat) (a b c d e : D) : startE (n + 5) [a, b, c, d, e] = .v a :: .v b :: .v c :: .v d :: .v e :: List.replicate n .no := rfl
theorem rep0 : List.replicate 0 Sl.no = [] := rfl
theorem repS (n : Nat) : List.replicate (n + 1) Sl.no = .no :: List.replicate n .no := rfl
theorem ok_eq {α : Type} (a : α) (s : St) : (some (.ok a, s) : Out α) = ok a s := rfl
theorem b_ok {α β : Type} (a : α) (s : St) (f : α → St → Out β) : bnd (ok a s) f = f a s := rfl
theorem b_ex {α β : Type} (e : Exc) (s : St) (f : α → St → Out β) : bnd (some (.ex e, s)) f = some (.ex e, s) := rfl
theorem b_if {α β : Type} (p : Prop) [Decidable p] (a b : Out α) (f : α → St → Out β) : bnd (if p then a else b) f = if p then bnd a f else bnd b f := by split <;> rfl
theorem l_some {α : Type} (a : α) (s : St) : lift (some a) s = ok a s := rfl
theorem k_t0 (s : St) : tupK [] s = ok (.tup []) s := rfl
theorem k_t1 (x0 : D) (s : St) : tupK [x0] s = ok (.tup [x0]) s := rfl
theorem k_t2 (x0 x1 : D) (s : St) : tupK [x0, x1] s = ok (.tup [x0, x1]) s := rfl
theorem k_t3 (x0 x1 x2 : D) (s : St) : tupK [x0, x1, x2] s = ok (.tup [x0, x1, x2]) s := rfl
theorem k_t4 (x0 x1 x2 x3 : D) (s : St) : tupK [x0, x1, x2, x3] s = ok (.tup [x0, x1, x2, x3]) s := rfl
theorem k_t5 (x0 x1 x2 x3 x4 : D) (s : St) : tupK [x0, x1, x2, x3, x4] s = ok (.tup [x0, x1, x2, x3, x4]) s := rfl
theorem k_t6 (x0 x1 x2 x3 x4 x5 : D) (s : St) : tupK [x0, x1, x2, x3, x4, x5] s = ok (.tup [x0, x1, x2, x3, x4, x5]) s := rfl
theorem k_t7 (x0 x1 x2 x3 x4 x5 x6 : D) (s : St) : tupK [x0, x1, x2, x3, x4, x5, x6] s = ok (.tup [x0, x1, x2, x3, x4, x5, x6]) s := rfl
theorem k_t8 (x0 x1 x2 x3 x4 x5 x6 x7 : D) (s : St) : tupK [x0, x1, x2, x3, x4, x5, x6, x7] s = ok (.tup [x0, x1, x2, x3, x4, x5, x6, x7]) s := rfl
theorem k_t9 (x0 x1 x2 x3 x4 x5 x6 x7 x8 : D) (s : St) : tupK [x0, x1, x2, x3, x4, x5, x6, x7, x8] s = ok (.tup [x0, x1, x2, x3, x4, x5, x6, x7, x8]) s := rfl
theorem k_t10 (x0 x1 x2 x3 x4 x5 x6 x7 x8 x9 : D) (s : St) : tupK [x0, x1, x2, x3, x4, x5, x6, x7, x8, x9] s = ok (.tup [x0, x1, x2, x3, x4, x5, x6, x7, x8, x9]) s := rfl
theorem k_t11 (x0 x1 x2 x3 x4 x5 x6 x7 x8 x9 x10 : D) (s : St) : tupK [x0, x1, x2, x3, x4, x5, x6, x7, x8, x9, x10] s = ok (.tup [x0, x1, x2, x3, x4, x5, x6, x7, x8, x9, x10]) s := rfl
theorem k_t12 (x0 x1 x2 x3 x4 x5 x6 x7 x8 x9 x10 x11 : D) (s : St) : tupK [x0, x1, x2, x3, x4, x5, x6, x7, x8, x9, x10, x11] s = ok (.tup [x0, x1, x2, x3, x4, x5, x6, x7, x8, x9, x10, x11]) s := rfl
theorem k_t13 (x0 x1 x2 x3 x4 x5 x6 x7 x8 x9 x10 x11 x12 : D) (s : St) : tupK [x0, x1, x2, x3, x4, x5, x6, x7, x8, x9, x10, x11, x12] s = ok (.tup [x0, x1, x2, x3, x4, x5, x6, x7, x8, x9, x10, x11, x12]) s := rfl
theorem k_t14 (x0 x1 x2 x3 x4 x5 x6 x7 x8 x9 x10 x11 x12 x13 : D) (s : St) : tupK [x0, x1, x2, x3, x4, x5, x6, x7, x8, x9, x10, x11, x12, x13] s = ok (.tup [x0, x1, x2, x3, x4, x5, x6, x7, x8, x9, x10, x11, x12, x13]) s := rfl
theorem k_t15 (x0 x1 x2 x3 x4 x5 x6 x7 x8 x9 x10 x11 x12 x13 x14 : D) (s : St) : tupK [x0, x1, x2, x3, x4, x5, x6, x7, x8, x9, x10, x11, x12, x13, x14] s = ok (.tup [x0, x1, x2, x3, x4, x5, x6, x7, x8, x9, x10, x11, x12, x13, x14]) s := rfl
theorem k_t16 (x0 x1 x2 x3 x4 x5 x6 x7 x8 x9 x10 x11 x12 x13 x14 x15 : D) (s : St) : tupK [x0, x1, x2, x3, x4, x5, x6, x7, x8, x9, x10, x11, x12, x13, x14, x15] s = ok (.tup [x0, x1, x2, x3, x4, x5, x6, x7, x8, x9, x10, x11, x12, x13, x14, x15]) s := rfl
theorem k_l0 (s : St) : lstK [] s = ok (.lst []) s := rfl
theorem k_l1 (x0 : D) (s : St) : lstK [x0] s = ok (.lst [x0]) s := rfl
theorem k_l2 (x0 x1 : D) (s : St) : lstK [x0, x1] s = ok (.lst [x0, x1]) s := rfl
theorem k_l3 (x0 x1 x2 : D) (s : St) : lstK [x0, x1, x2] s = ok (.lst [x0, x1, x2]) s := rfl
theorem k_l4 (x0 x1 x2 x3 : D) (s : St) : lstK [x0, x1, x2, x3] s = ok (.lst [x0, x1, x2, x3]) s := rfl
theorem k_l5 (x0 x1 x2 x3 x4 : D) (s : St) : lstK [x0, x1, x2, x3, x4] s = ok (.lst [x0, x1, x2, x3, x4]) s := rfl
theorem k_l6 (x0 x1 x2 x3 x4 x5 : D) (s : St) : lstK [x0, x1, x2, x3, x4, x5] s = ok (.lst [x0, x1, x2, x3, x4, x5]) s := rfl
theorem k_l7 (x0 x1 x2 x3 x4 x5 x6 : D) (s : St) : lstK [x0, x1, x2, x3, x4, x5, x6] s = ok (.lst [x0, x1, x2, x3, x4, x5, x6]) s := rfl
theorem k_l8 (x0 x1 x2 x3 x4 x5 x6 x7 : D) (s : St) : lstK [x0, x1, x2, x3, x4, x5, x6, x7] s = ok (.lst [x0, x1, x2, x3, x4, x5, x6, x7]) s := rfl
theorem k_l9 (x0 x1 x2 x3 x4 x5 x6 x7 x8 : D) (s : St) : lstK [x0, x1, x2, x3, x4, x5, x6, x7, x8] s = ok (.lst [x0, x1, x2, x3, x4, x5, x6, x7, x8]) s := rfl
theorem k_l10 (x0 x1 x2 x3 x4 x5 x6 x7 x8 x9 : D) (s : St) : lstK [x0, x1, x2, x3, x4, x5, x6, x7, x8, x9] s = ok (.lst [x0, x1, x2, x3, x4, x5, x6, x7, x8, x9]) s := rfl
theorem k_l11 (x0 x1 x2 x3 x4 x5 x6 x7 x8 x9 x10 : D) (s : St) : lstK [x0, x1, x2, x3, x4, x5, x6, x7, x8, x9, x10] s = ok (.lst [x0, x1, x2, x3, x4, x5, x6, x7, x8, x9, x10]) s := rfl
theorem k_l12 (x0 x1 x2 x3 x4 x5 x6 x7 x8 x9 x10 x11 : D) (s : St) : lstK [x0, x1, x2, x3, x4, x5, x6, x7, x8, x9, x10, x11] s = ok (.lst [x0, x1, x2, x3, x4, x5, x6, x7, x8, x9, x10, x11]) s := rfl
theorem k_l13 (x0 x1 x2 x3 x4 x5 x6 x7 x8 x9 x10 x11 x12 : D) (s : St) : lstK [x0, x1, x2, x3, x4, x5, x6, x7, x8, x9, x10, x11, x12] s = ok (.lst [x0, x1, x2, x3, x4, x5, x6, x7, x8, x9, x10, x11, x12]) s := rfl
theorem k_l14 (x0 x1 x2 x3 x4 x5 x6 x7 x8 x9 x10 x11 x12 x13 : D) (s : St) : lstK [x0, x1, x2, x3, x4, x5, x6, x7, x8, x9, x10, x11, x12, x13] s = ok (.lst [x0, x1, x2, x3, x4, x5, x6, x7, x8, x9, x10, x11, x12, x13]) s := rfl
theorem k_l15 (x0 x1 x2 x3 x4 x5 x6 x7 x8 x9 x10 x11 x12 x13 x14 : D) (s : St) : lstK [x0, x1, x2, x3, x4, x5, x6, x7, x8, x9, x10, x11, x12, x13, x14] s = ok (.lst [x0, x1, x2, x3, x4, x5, x6, x7, x8, x9, x10, x11, x12, x13, x14]) s := rfl
theorem k_l16 (x0 x1 x2 x3 x4 x5 x6 x7 x8 x9 x10 x11 x12 x13 x14 x15 : D) (s : St) : lstK [x0, x1, x2, x3, x4, x5, x6, x7, x8, x9, x10, x11, x12, x13, x14, x15] s = ok (.lst [x0, x1, x2, x3, x4, x5, x6, x7, x8, x9, x10, x11, x12, x13, x14, x15]) s := rfl
def EVt := And.intro @k_t0 <| And.intro @k_t1 <| And.intro @k_t2 <| And.intro @k_t3 <| And.intro @k_t4 <| And.intro @k_t5 <| And.intro @k_t6 <| And.intro @k_t7 <| And.intro @k_t8 <| And.intro @k_t9 <| And.intro @k_t10 <| And.intro @k_t11 <| And.intro @k_t12 <| And.intro @k_t13 <| And.intro @k_t14 <| And.intro @k_t15 <| And.intro @k_t16 <| And.intro @k_l0 <| And.intro @k_l1 <| And.intro @k_l2 <| And.intro @k_l3 <| And.intro @k_l4 <| And.intro @k_l5 <| And.intro @k_l6 <| And.intro @k_l7 <| And.intro @k_l8 <| And.intro @k_l9 <| And.intro @k_l10 <| And.intro @k_l11 <| And.intro @k_l12 <| And.intro @k_l13 <| And.intro @k_l14 <| And.intro @k_l15 <| @k_l16
/-- all steps -/
def EVa := And.intro @eO_var <| And.intro @eO_int <| And.intro @eO_bl <| And.intro @eO_non <| And.intro @eO_str <| And.intro @eO_glob <| And.intro @eO_tup <| And.intro @eO_lst <| And.intro @eO_dct0 <| And.intro @eO_bin <| And.intro @eO_neg <| And.intro @eO_cmp <| And.intro @eO_chain <| And.intro @eO_andv <| And.intro @eO_orv <| And.intro @eO_notv <| And.intro @eO_ite <| And.intro @eO_sub <| And.intro @eO_slice <| And.intro @eO_rev <| And.intro @eO_call <| And.intro @eO_new <| And.intro @eO_word <| And.intro @eO_blt <| And.intro @eO_attr <| And.intro @eO_isi <| And.intro @eO_index <| And.intro @eO_comp <| And.intro @eO_dcomp <| And.intro @eE_var <| And.intro @eE_int <| And.intro @eE_bl <| And.intro @eE_non <| And.intro @eE_str <| And.intro @eE_glob <| And.intro @eE_tup <| And.intro @eE_lst <| And.intro @eE_dct0 <| And.intro @eE_bin <| And.intro @eE_neg <| And.intro @eE_cmp <| And.intro @eE_chain <| And.intro @eE_andv <| And.intro @eE_orv <| And.intro @eE_notv <| And.intro @eE_ite <| And.intro @eE_sub <| And.intro @eE_slice <| And.intro @eE_rev <| And.intro @eE_call <| And.intro @eE_new <| And.intro @eE_blt <| And.intro @eE_attr <| And.intro @eE_isi <| And.intro @eE_index <| And.intro @eE_comp <| @eE_dcomp
def EVb := And.intro EVt <| And.intro @k_bin1 <| And.intro @k_bin2 <| And.intro @k_cmp1 <| And.intro @k_cmp2 <| And.intro @k_neg <| And.intro @k_ch1 <| And.intro @k_ch2 <| And.intro @k_ch3t <| And.intro @k_ch3f <| And.intro @k_andt <| And.intro @k_andf <| And.intro @e_and1 <| And.intro @e_and2 <| And.intro @k_ort <| And.intro @k_orf <| And.intro @e_or1 <| And.intro @e_or2 <| And.intro @k_not <| And.intro @k_itet <| And.intro @k_itef <| And.intro @k_sub1 <| And.intro @k_sub2 <| And.intro @k_sl1 <| And.intro @k_sl2 <| And.intro @k_sl3 <| And.intro @e_p0 <| And.intro @e_p1 <| And.intro @k_into <| And.intro @k_call <| And.intro @k_new <| And.intro @k_blt <| And.intro @k_attr <| And.intro @k_glob <| And.intro @k_idx1 <| And.intro @k_idx2 <| And.intro @k_isi <| And.intro @k_rev <| And.intro @e_es0 <| And.intro @e_esS <| And.intro @k_es <| And.intro @e_bs0 <| And.intro @e_bsS <| And.intro @k_bs <| And.intro @k_cons <| And.intro @t_e <| And.intro @t_all <| And.intro @t_any <| And.intro @t_not <| And.intro @k_tru <| And.intro @k_trub <| And.intro @k_tnot <| And.intro @e_all0 <| And.intro @e_allS <| And.intro @k_tallt <| And.intro @k_tallf <| And.intro @e_any0 <| And.intro @e_anyS <| And.intro @k_tanyt <| And.intro @k_tanyf <| And.intro @e_to0 <| And.intro @e_to1 <| And.intro @i_seqt <| And.intro @i_seqf <| And.intro @k_items <| And.intro @i_rng1 <| And.intro @k_rng1 <| And.intro @i_rng2 <| And.intro @k_rng2 <| And.intro @k_rng3 <| And.intro @i_enumt <| And.intro @i_enumf <| And.intro @k_enuml <| And.intro @k_enumt <| And.intro @i_zipt <| And.intro @i_zipf <| And.intro @k_zip1t <| And.intro @k_zip1f <| And.intro @k_zip2l <| @k_zip2t
def EVc := And.intro @k_comp <| And.intro @k_lst1 <| And.intro @k_dcomp <| And.intro @k_dct1 <| And.intro @k_mute <| And.intro @k_muted <| And.intro @c_f <| And.intro @c_fk <| And.intro @k_compt <| And.intro @k_compf <| And.intro @k_some <| And.intro @dc_f <| And.intro @dc_fk <| And.intro @k_dcompt <| And.intro @k_dcompf <| And.intro @k_pair1 <| And.intro @k_pair2 <| And.intro @s_asg <| And.intro @k_asg <| And.intro @s_own <| And.intro @k_ownl <| And.intro @k_ownd <| And.intro @s_par <| And.intro @k_par <| And.intro @k_nx <| And.intro @k_par0 <| And.intro @k_parv <| And.intro @k_parl <| And.intro @k_pard <| And.intro @s_unp <| And.intro @k_unp <| And.intro @g_one <| And.intro @g_tup <| And.intro @g_nil <| And.intro @g_one1 <| And.intro @s_ret <| And.intro @k_ret <| And.intro @s_retn <| And.intro @s_exp <| And.intro @k_exp <| And.intro @s_app <| And.intro @k_apps <| And.intro @k_app <| And.intro @s_ext <| And.intro @k_exts <| And.intro @k_ext <| And.intro @s_set <| And.intro @k_setv <| And.intro @k_setl <| And.intro @k_setd <| And.intro @k_setdk <| And.intro @s_frz <| And.intro @k_frz <| And.intro @s_iff <| And.intro @k_ifft <| And.intro @k_ifff <| And.intro @s_loop <| And.intro @s_for <| And.intro @k_for <| And.intro @k_fork <| And.intro @k_fork2 <| And.intro @s_pass <| And.intro @s_brk <| And.intro @s_cnt <| And.intro @s_aug <| And.intro @k_augs <| And.intro @k_aug <| And.intro @k_aug2 <| And.intro @k_augadd <| And.intro @k_augsub <| And.intro @s_rai0 <| And.intro @s_rai1 <| And.intro @k_rai <| And.intro @s_nil <| And.intro @s_cons <| And.intro @k_seqn <| And.intro @k_seqr <| And.intro @k_seqb <| And.intro @k_seqc <| And.intro @k_finr <| @k_finn
def EVd := And.intro @at0 <| And.intro @atS <| And.intro @sl_val <| And.intro @sl_borv <| And.intro @sl_boro <| And.intro @set0 <| And.intro @setS <| And.intro @wipe0 <| And.intro @wipeS <| And.intro @st_1 <| And.intro @st_2 <| And.intro @st_3 <| And.intro @st_4 <| And.intro @st_5 <| And.intro @rep0 <| And.intro @repS <| And.intro @b_ok <| And.intro @b_ex <| @l_some
end Ev
set_option maxHeartbeats 1000000
/-! PlRat: fractions. -/
namespace Ev
open PySem
/-- a fraction as it is told -/
def fr (q : Rat) : D := .tup [.int q.num, .int q.den]
theorem fr_inj {p q : Rat} (h : fr p = fr q) : p = q := by
  unfold fr at h
  injection h with h
  injection h with h1 h2
  injection h1 with h1
  injection h2 with h2 _
  injection h2 with h2
  exact Rat.ext h1 (by exact_mod_cast h2)
/-- small enough for all operations -/
structure Sm (q : Rat) : Prop where
  n : q.num.natAbs < 2 ^ 100
  d : q.den < 2 ^ 60
theorem den_pos' (q : Rat) : (0 : Int) < q.den := by have := q.den_pos; omega
theorem log_lt' {i : Int} {n : Nat} (h : i.natAbs < 2 ^ n) (hn : 0 < n) : i.natAbs.log2 < n := by
  by_cases z : i.natAbs = 0
  · rw [z]; simpa using hn
  · exact (Nat.log2_lt z).mpr h
theorem b_mul {i j : Int} (h : i.natAbs < 2 ^ 250) (h2 : j.natAbs < 2 ^ 250) : binD .mul (.int i) (.int j) = some (.int (i * j)) := by
  show guardD (mulG i j) _ = _
  unfold guardD mulG
  rw [if_pos (decide_eq_true (by have := log_lt' h (by decide); have := log_lt' h2 (by decide); omega))]
theorem b_mod {i j : Int} (h : j ≠ 0) : binD .mod (.int i) (.int j) = some (.int (i.fmod j)) := by
  show guardD (decide (j ≠ 0)) _ = _
  unfold guardD
  rw [if_pos (decide_eq_true h)]
theorem b_div {i j : Int} (h : 0 < j) (h2 : j.natAbs < 2 ^ 250) : binD .fdiv (.int i) (.int j) = some (.int (i.fdiv j)) := by
  show guardD (divG j) _ = _
  unfold guardD divG
  have := log_lt' h2 (by decide)
  rw [if_pos (by simp only [Bool.and_eq_true, Bool.or_eq_true, decide_eq_true_eq]; exact ⟨by omega, .inr ⟨h, by omega⟩⟩)]
theorem b_divN {i j : Int} (h : j ≠ 0) (h2 : j.natAbs < 1073741824) : binD .fdiv (.int i) (.int j) = some (.int (i.fdiv j)) := by
  show guardD (divG j) _ = _
  unfold guardD divG
  rw [if_pos (by simp [h, h2])]
theorem b_add (i j : Int) : binD .add (.int i) (.int j) = some (.int (i + j)) := rfl
theorem b_sub (i j : Int) : binD .sub (.int i) (.int j) = some (.int (i - j)) := rfl
theorem c_eq (i j : Int) : cmpD .eq (.int i) (.int j) = some (.bl (decide (i = j))) := by
  show (eqD (.int i) (.int j)).map D.bl = _
  exact congrArg (fun b => some (D.bl b)) (show (i == j) = decide (i = j) from rfl)
theorem c_ne (i j : Int) : cmpD .ne (.int i) (.int j) = some (.bl (decide (i ≠ j))) := by
  show (eqD (.int i) (.int j)).map (fun b => D.bl (!b)) = _
  have : eqD (.int i) (.int j) = some (decide (i = j)) := rfl
  rw [this]
  simp
theorem c_gt (i j : Int) : cmpD .gt (.int i) (.int j) = some (.bl (decide (j < i))) := rfl
theorem c_lt (i j : Int) : cmpD .lt (.int i) (.int j) = some (.bl (decide (i < j))) := rfl
theorem c_ge (i j : Int) : cmpD .ge (.int i) (.int j) = some (.bl (decide (j ≤ i))) := rfl
theorem c_le (i j : Int) : cmpD .le (.int i) (.int j) = some (.bl (decide (i ≤ j))) := rfl
theorem d_neg (i : Int) : negD (.int i) = some (.int (-i)) := rfl
theorem u_int (i : Int) : bltD .int [.int i] = some (.int i) := rfl
theorem u_abs (i : Int) : bltD .abs [.int i] = some (.int (i.natAbs : Int)) := by
  show some (D.int (if i < 0 then -i else i)) = _
  congr 2
  split <;> omega
theorem u_lenl (xs : List D) : bltD .len [.lst xs] = some (.int xs.length) := rfl
theorem u_lent (xs : List D) : bltD .len [.tup xs] = some (.int xs.length) := rfl
theorem u_lend (xs : List (D × D)) : bltD .len [.dct xs] = some (.int xs.length) := rfl
theorem u_tupl (xs : List D) : bltD .tuple [.lst xs] = some (.tup xs) := rfl
theorem u_tupt (xs : List D) : bltD .tuple [.tup xs] = some (.tup xs) := rfl
theorem u_lstl (xs : List D) : bltD .list [.lst xs] = some (.lst xs) := rfl
theorem u_lstt (xs : List D) : bltD .list [.tup xs] = some (.lst xs) := rfl
theorem u_lstd (xs : List (D × D)) : bltD .list [.dct xs] = some (.lst (xs.map (·.1))) := rfl
theorem u_min (i j : Int) : bltD .min2 [.int i, .int j] = some (.int (if j < i then j else i)) := rfl
theorem u_max (i j : Int) : bltD .max2 [.int i, .int j] = some (.int (if j > i then j else i)) := rfl
theorem tr_b (b : Bool) : truD (.bl b) = some b := rfl
theorem sub_f0 (q : Rat) : subD (fr q) (.int 0) = some (.int q.num) := rfl
theorem sub_f1 (q : Rat) : subD (fr q) (.int 1) = some (.int q.den) := rfl
theorem sub_t0 (a : D) (r : List D) : subD (.tup (a :: r)) (.int 0) = some a := by
  show (ixD (a :: r).length 0).bind _ = _
  unfold ixD
  rw [if_pos (by decide), if_pos (by simp)]
  rfl
theorem sub_t1 (a b : D) (r : List D) : subD (.tup (a :: b :: r)) (.int 1) = some b := by
  show (ixD (a :: b :: r).length 1).bind _ = _
  unfold ixD
  rw [if_pos (by decide), if_pos (by simp; omega)]
  rfl
theorem sub_l0 (a : D) (r : List D) : subD (.lst (a :: r)) (.int 0) = some a := sub_t0 a r
theorem sub_l1 (a b : D) (r : List D) : subD (.lst (a :: b :: r)) (.int 1) = some b := sub_t1 a b r
theorem gd_t (d : D) : guardD true d = some d := rfl
theorem lim_s {n : Nat} (h : n ≤ 1000) : decide (n ≤ lim) = true := by unfold lim; simp; omega
def EVn := And.intro @decide_true <| And.intro @decide_false <| And.intro @b_add <| And.intro @b_sub <| And.intro @c_eq <| And.intro @c_ne <| And.intro @c_gt <| And.intro @c_lt <| And.intro @c_ge <| And.intro @c_le <| And.intro @d_neg <| And.intro @u_int <| And.intro @u_abs <| And.intro @u_lenl <| And.intro @u_lent <| And.intro @u_lend <| And.intro @u_tupl <| And.intro @u_tupt <| And.intro @u_lstl <| And.intro @u_lstt <| And.intro @u_lstd <| And.intro @u_min <| And.intro @u_max <| And.intro @tr_b <| And.intro @sub_f0 <| And.intro @sub_f1 <| And.intro @sub_t0 <| And.intro @sub_t1 <| And.intro @sub_l0 <| And.intro @sub_l1 <| @gd_t
/-! ### the greatest common divisor -/
def F_common_divisor : Fn := ⟨2, 2, [.par [(0, false), (1, false)] [(.blt .abs [(.var 0)]), (.blt .abs [(.var 1)])], .loop (.e (.cmp .gt (.var 1) (.int 0))) [.par [(0, false), (1, false)] [(.var 1), (.bin .mod (.var 0) (.var 1))]], .ret (.var 0)]⟩
theorem loopGo_eq (X : Cf) (t : T) (b : List S) (ρ : Env) (s : St) : loopGo X t b ρ s = match evT X t ρ s with
  | none => none
  | some (.ex e, s) => some (.ex e, s)
  | some (.ok false, s) => some (.ok (.nx ρ), s)
  | some (.ok true, s) => match evSs X b ρ s with
    | none => none
    | some (.ex e, s) => some (.ex e, s)
    | some (.ok (.nx ρ'), s) => loopGo X t b ρ' s
    | some (.ok (.cnt ρ'), s) => loopGo X t b ρ' s
    | some (.ok (.brk ρ'), s) => some (.ok (.nx ρ'), s)
    | some (.ok (.ret ρ' d), s) => some (.ok (.ret ρ' d), s) := by
  unfold loopGo
  rw [wh_eq]
  unfold whStep
  cases evT X t ρ s with
  | none => rfl
  | some z =>
    obtain ⟨r, s1⟩ := z
    cases r with
    | ex e => rfl
    | ok b1 =>
      cases b1 with
      | false => rfl
      | true =>
        dsimp only
        cases evSs X b ρ s1 with
        | none => rfl
        | some z =>
          obtain ⟨r, s2⟩ := z
          cases r with
          | ex e => rfl
          | ok f => cases f <;> rfl
theorem loop_t {X : Cf} {t : T} {b : List S} {ρ ρ' : Env} {s s1 s2 : St} (h : evT X t ρ s = ok true s1) (h2 : evSs X b ρ s1 = ok (.nx ρ') s2) : loopGo X t b ρ s = loopGo X t b ρ' s2 := by
  rw [loopGo_eq, h]
  unfold ok
  dsimp only
  rw [h2]
  rfl
theorem loop_f {X : Cf} {t : T} {b : List S} {ρ : Env} {s s1 : St} (h : evT X t ρ s = ok false s1) : loopGo X t b ρ s = ok (.nx ρ) s1 := by
  rw [loopGo_eq, h]
  rfl
theorem gcd_loop (X : Cf) (s : St) : ∀ (k a b : Nat), b ≤ k → loopGo X (.e (.cmp .gt (.var 1) (.int 0))) [.par [(0, false), (1, false)] [(.var 1), (.bin .mod (.var 0) (.var 1))]] [.v (.int a), .v (.int b)] s = ok (.nx [.v (.int (Nat.gcd a b)), .v (.int 0)]) s
  | k, a, 0, _ => by
    rw [loop_f (s1 := s) (by simp only [EVa, EVb, EVd, EVn]; rfl), Nat.gcd_zero_right]
    rfl
  | 0, a, b + 1, h => by omega
  | k + 1, a, b + 1, h => by
    have m : Int.fmod (a : Int) ((b + 1 : Nat) : Int) = ((a % (b + 1) : Nat) : Int) := by
      rw [Int.fmod_eq_emod_of_nonneg _ (by omega)]; rfl
    rw [loop_t (s1 := s) (s2 := s) (ρ' := [.v (.int ((b + 1 : Nat) : Int)), .v (.int ((a % (b + 1) : Nat) : Int))]) (by simp only [EVa, EVb, EVd, EVn]; rw [decide_eq_true (by omega)])
      (by simp only [EVa, EVb, EVc, EVd, EVn, b_mod (i := (a : Int)) (j := ((b + 1 : Nat) : Int)) (by omega), m])]
    rw [gcd_loop X s k (b + 1) (a % (b + 1)) (by have := Nat.mod_lt a (y := b + 1) (by omega); omega)]
    rw [show Nat.gcd a (b + 1) = Nat.gcd (b + 1) (a % (b + 1)) by rw [Nat.gcd_comm a, Nat.gcd_rec (b+1) a, Nat.gcd_comm]]
section
variable {P : Pg} [Low P]
theorem gcd_ok [Has P "common_divisor" F_common_divisor] (n : Nat) (a b : Int) (s : St) : call P (n + 6) "common_divisor" [.int a, .int b] s = ok (.int (Int.gcd a b)) s := by
  rw [call_has "common_divisor" n _ _ rfl]
  simp only [F_common_divisor, EVa, EVb, EVc, EVd, EVn, gcd_loop _ _ _ _ _ (Nat.le_refl _)]
  rfl
def F_fraction : Fn := ⟨2, 3, [.asg 2 (.call "common_divisor" [(.var 0), (.var 1)]), .asg 2 (.ite (.e (.cmp .gt (.var 1) (.int 0))) (.var 2) (.neg (.var 2))), .ret (.tup [(.bin .fdiv (.var 0) (.var 2)), (.bin .fdiv (.var 1) (.var 2))])]⟩
theorem div_num {a b : Int} (hb : 0 < b) : ((a : Rat) / (b : Rat)).num = a.fdiv (Int.gcd a b) := by
  rw [← Rat.divInt_eq_div, Rat.num_divInt, Int.sign_eq_one_of_pos hb, Int.one_mul, Int.gcd_comm, Int.fdiv_eq_ediv_of_nonneg _ (by omega)]
theorem div_den {a b : Int} (hb : 0 < b) : (((a : Rat) / (b : Rat)).den : Int) = b.fdiv (Int.gcd a b) := by
  rw [← Rat.divInt_eq_div, Rat.den_divInt, if_neg (by omega), Int.gcd_comm, Int.fdiv_eq_ediv_of_nonneg _ (by omega), Int.natCast_ediv, Int.natAbs_of_nonneg (by omega)]
theorem gcd_pos' {a b : Int} (hb : b ≠ 0) : (0 : Int) < (Int.gcd a b : Int) := by
  have := Int.gcd_pos_of_ne_zero_right a hb
  omega
theorem gcd_le' {a b : Int} (hb : b ≠ 0) : Int.gcd a b ≤ b.natAbs := Nat.le_of_dvd (by omega) (Nat.gcd_dvd_right _ _)
theorem fraction_ok [Has P "common_divisor" F_common_divisor] [Has P "fraction" F_fraction] (n : Nat) (a b : Int) (s : St) (hb : 0 < b) (h2 : b.natAbs < 2 ^ 250) : call P (n + 12) "fraction" [.int a, .int b] s = ok (fr (a / b)) s := by
  rw [call_has "fraction" (n + 6) _ _ rfl]
  have g0 := gcd_pos' (a := a) (b := b) (by omega)
  have g1 := gcd_le' (a := a) (b := b) (by omega)
  have e : ∀ i, binD .fdiv (.int i) (.int (Int.gcd a b)) = some (.int (i.fdiv (Int.gcd a b))) := fun i => b_div g0 (by omega)
  simp only [F_fraction, EVa, EVb, EVc, EVd, EVn, gcd_ok, decide_eq_true hb, e]
  unfold fr
  rw [div_num hb, div_den hb]
theorem fractionN_ok [Has P "common_divisor" F_common_divisor] [Has P "fraction" F_fraction] (n : Nat) (a b : Int) (s : St) (hb : b < 0) (h2 : b.natAbs < 1073741824) : call P (n + 12) "fraction" [.int a, .int b] s = ok (fr (a / b)) s := by
  rw [call_has "fraction" (n + 6) _ _ rfl]
  have g0 := gcd_pos' (a := a) (b := b) (by omega)
  have g1 := gcd_le' (a := a) (b := b) (by omega)
  have e : ∀ i, binD .fdiv (.int i) (.int (-(Int.gcd a b : Int))) = some (.int (i.fdiv (-(Int.gcd a b : Int)))) := fun i => b_divN (by omega) (by omega)
  simp only [F_fraction, EVa, EVb, EVc, EVd, EVn, gcd_ok, decide_eq_false (show ¬ 0 < b by omega), e]
  unfold fr
  have q : (a : Rat) / (b : Rat) = ((-a : Int) : Rat) / ((-b : Int) : Rat) := by
    rw [← Rat.divInt_eq_div, ← Rat.divInt_eq_div, Rat.neg_divInt_neg]
  have f : ∀ i : Int, i.fdiv (-(Int.gcd a b : Int)) = (-i).fdiv (Int.gcd a b : Int) := fun i => by
    have := Int.neg_fdiv_neg i (-(Int.gcd a b : Int))
    rw [Int.neg_neg] at this
    exact this.symm
  have gg : Int.gcd (-a) (-b) = Int.gcd a b := by rw [Int.gcd_neg, Int.neg_gcd]
  rw [q, div_num (show 0 < -b by omega), div_den (show 0 < -b by omega), gg, f, f]
end
end Ev
set_option maxHeartbeats 1000000
/-! PlFr: operations on fractions, rings. -/
namespace Ev
open PySem
def F_whole : Fn := ⟨1, 1, [.ret (.tup [(.var 0), (.int 1)])]⟩
def F_minus : Fn := ⟨2, 2, [.ret (.call "fraction" [(.bin .sub (.bin .mul (.sub (.var 0) (.int 0)) (.sub (.var 1) (.int 1))) (.bin .mul (.sub (.var 1) (.int 0)) (.sub (.var 0) (.int 1)))), (.bin .mul (.sub (.var 0) (.int 1)) (.sub (.var 1) (.int 1)))])]⟩
def F_plus : Fn := ⟨2, 2, [.ret (.call "fraction" [(.bin .add (.bin .mul (.sub (.var 0) (.int 0)) (.sub (.var 1) (.int 1))) (.bin .mul (.sub (.var 1) (.int 0)) (.sub (.var 0) (.int 1)))), (.bin .mul (.sub (.var 0) (.int 1)) (.sub (.var 1) (.int 1)))])]⟩
def F_is_less : Fn := ⟨2, 2, [.ret (.cmp .lt (.bin .mul (.sub (.var 0) (.int 0)) (.sub (.var 1) (.int 1))) (.bin .mul (.sub (.var 1) (.int 0)) (.sub (.var 0) (.int 1))))]⟩
def F_dot_value : Fn := ⟨2, 2, [.ret (.bin .add (.sub (.attr (.var 0) "dots") (.bin .mod (.var 1) (.attr (.var 0) "many"))) (.bin .mul (.bin .mul (.attr (.var 0) "degree") (.attr (.var 0) "many")) (.bin .fdiv (.var 1) (.attr (.var 0) "many"))))]⟩
def F_value_at : Fn := ⟨2, 5, [.asg 2 (.bin .fdiv (.sub (.var 1) (.int 0)) (.sub (.var 1) (.int 1))), .par [(3, false), (4, false)] [(.call "dot_value" [(.var 0), (.var 2)]), (.bin .sub (.call "dot_value" [(.var 0), (.bin .add (.var 2) (.int 1))]) (.call "dot_value" [(.var 0), (.var 2)]))], .ret (.call "fraction" [(.bin .add (.bin .mul (.var 3) (.sub (.var 1) (.int 1))) (.bin .mul (.var 4) (.bin .sub (.sub (.var 1) (.int 0)) (.bin .mul (.var 2) (.sub (.var 1) (.int 1)))))), (.sub (.var 1) (.int 1))])]⟩
def F_alike_one : Fn := ⟨2, 2, [.ret (.call "fraction" [(.bin .mod (.sub (.var 1) (.int 0)) (.bin .mul (.attr (.var 0) "many") (.sub (.var 1) (.int 1)))), (.sub (.var 1) (.int 1))])]⟩
/-- a ring as it is told -/
def ringD (vs : List Int) (d : Int) : D := .obj "Ring" [.tup (vs.map .int), .int d, .int vs.length]
class RingFl (P : Pg) : Prop where
  fl : P.fl "Ring" = [("dots" : Str), "degree", "many"]
theorem a_dots {P : Pg} [h : RingFl P] (vs : List Int) (d : Int) : attrD P.fl (ringD vs d) "dots" = some (.tup (vs.map .int)) := by
  show (ixOf _ (P.fl "Ring")).bind _ = _
  rw [h.fl]
  rfl
theorem a_deg {P : Pg} [h : RingFl P] (vs : List Int) (d : Int) : attrD P.fl (ringD vs d) "degree" = some (.int d) := by
  show (ixOf _ (P.fl "Ring")).bind _ = _
  rw [h.fl]
  rfl
theorem a_many {P : Pg} [h : RingFl P] (vs : List Int) (d : Int) : attrD P.fl (ringD vs d) "many" = some (.int vs.length) := by
  show (ixOf _ (P.fl "Ring")).bind _ = _
  rw [h.fl]
  rfl
theorem sub_ix {xs : List D} {i : Int} (h : 0 ≤ i) (h2 : i < xs.length) : subD (.tup xs) (.int i) = xs[i.toNat]? := by
  show (ixD xs.length i).bind _ = _
  unfold ixD
  rw [if_pos h, if_pos h2]
  rfl
theorem sub_ixl {xs : List D} {i : Int} (h : 0 ≤ i) (h2 : i < xs.length) : subD (.lst xs) (.int i) = xs[i.toNat]? := sub_ix h h2
theorem sub_ints {vs : List Int} {i : Int} (h : 0 ≤ i) (h2 : i < vs.length) : subD (.tup (vs.map .int)) (.int i) = some (.int (vs.getD i.toNat 0)) := by
  rw [sub_ix h (by simpa using h2), List.getElem?_map]
  have : i.toNat < vs.length := by omega
  rw [List.getElem?_eq_getElem this]
  simp [List.getD_eq_getElem?_getD, List.getElem?_eq_getElem this]
/-- small rings -/
structure Rg (vs : List Int) (d : Int) : Prop where
  ne : 0 < vs.length
  len : vs.length ≤ 8
  v : ∀ v ∈ vs, v.natAbs ≤ 1000
  d : d.natAbs ≤ 10
def dotv (vs : List Int) (d i : Int) : Int := vs.getD (i % (vs.length : Int)).toNat 0 + d * vs.length * (i / (vs.length : Int))
def val (vs : List Int) (d : Int) (q : Rat) : Rat := (dotv vs d q.floor : Int) + (dotv vs d (q.floor + 1) - dotv vs d q.floor : Int) * (q - q.floor)
def alk (n : Nat) (q : Rat) : Rat := ((q.num % (n * q.den : Int) : Int) : Rat) / (q.den : Int)
theorem sub_div (p q : Rat) : ((p.num * q.den - q.num * p.den : Int) : Rat) / ((p.den * q.den : Int) : Rat) = p - q := by
  rw [Rat.sub_def', Rat.mkRat_eq_div]
  congr 1
theorem add_div (p q : Rat) : ((p.num * q.den + q.num * p.den : Int) : Rat) / ((p.den * q.den : Int) : Rat) = p + q := by
  rw [Rat.add_def', Rat.mkRat_eq_div]
  congr 1
theorem den_mul_lt {a b : Nat} (h : a < 2 ^ 60) (h2 : b < 2 ^ 60) : a * b < 2 ^ 120 := Nat.lt_of_lt_of_le (Nat.mul_lt_mul'' h h2) (by decide)
theorem den_mul_sm {p q : Rat} (hp : Sm p) (hq : Sm q) : (0 : Int) < p.den * q.den ∧ ((p.den * q.den : Int)).natAbs < 2 ^ 250 := by
  have h1 := p.den_pos
  have h2 := q.den_pos
  have h3 := den_mul_lt hp.d hq.d
  have h4 := Nat.mul_pos h1 h2
  have : (p.den * q.den : Int) = ((p.den * q.den : Nat) : Int) := by simp
  rw [this]
  omega
theorem dabs (q : Rat) (h : Sm q) : ((q.den : Int)).natAbs < 2 ^ 250 := by have := h.d; omega
theorem nabs (q : Rat) (h : Sm q) : q.num.natAbs < 2 ^ 250 := by have := h.n; omega
theorem num_floor (q : Rat) : q.num.fdiv q.den = q.floor := by
  rw [Rat.floor_def, Int.fdiv_eq_ediv_of_nonneg _ (by omega)]
theorem div_abs_le (a b : Int) (hb : 0 < b) : (a / b).natAbs ≤ a.natAbs := Int.natAbs_ediv_le_natAbs a b
theorem floor_abs (q : Rat) (h : Sm q) : q.floor.natAbs < 2 ^ 100 := by
  have := div_abs_le q.num q.den (den_pos' q)
  have h2 := h.n
  rw [Rat.floor_def]
  omega
theorem dotv_abs {vs : List Int} {d : Int} (g : Rg vs d) (i : Int) (h : i.natAbs ≤ 2 ^ 101) : (dotv vs d i).natAbs < 2 ^ 110 := by
  unfold dotv
  have h1 : (vs.getD (i % (vs.length : Int)).toNat 0).natAbs ≤ 1000 := by
    rw [List.getD_eq_getElem?_getD]
    cases e : vs[(i % (vs.length : Int)).toNat]? with
    | none => simp
    | some v => exact g.v v (List.mem_of_getElem? e)
  have h2 := div_abs_le i vs.length (by have := g.ne; omega)
  have h3 : (d * vs.length * (i / (vs.length : Int))).natAbs ≤ 80 * 2 ^ 101 := by
    rw [Int.natAbs_mul, Int.natAbs_mul]
    exact Nat.mul_le_mul (Nat.mul_le_mul g.d (by have := g.len; omega)) (Nat.le_trans h2 h)
  omega
theorem alk_pos {vs : List Int} {q : Rat} (h1 : 0 < vs.length) (h2 : vs.length ≤ 8) (h : Sm q) : (0 : Int) < vs.length * q.den ∧ ((vs.length * q.den : Int)).natAbs < 2 ^ 250 := by
  have := q.den_pos
  have h4 := Nat.mul_pos h1 this
  have h5 : vs.length * q.den ≤ 8 * q.den := Nat.mul_le_mul_right _ h2
  have h6 := h.d
  have : (vs.length * q.den : Int) = ((vs.length * q.den : Nat) : Int) := by simp
  rw [this]
  omega
theorem num_den (q : Rat) : q * ((q.den : Int) : Rat) = (q.num : Rat) := by
  have z : ((q.den : Int) : Rat) ≠ 0 := by
    have := q.den_nz
    simp [this]
  conv => lhs; arg 1; rw [← Rat.mkRat_self q, Rat.mkRat_eq_div]
  exact Rat.div_mul_cancel z
theorem val_div (vs : List Int) (d : Int) (q : Rat) : ((dotv vs d q.floor * q.den + (dotv vs d (q.floor + 1) - dotv vs d q.floor) * (q.num - q.floor * q.den) : Int) : Rat) / ((q.den : Int) : Rat) = val vs d q := by
  unfold val
  have z : ((q.den : Int) : Rat) ≠ 0 := by
    have := q.den_nz
    simp [this]
  generalize dotv vs d q.floor = a
  generalize dotv vs d (q.floor + 1) = b
  generalize q.floor = f
  have e2 := num_den q
  simp only [Rat.intCast_add, Rat.intCast_mul, Rat.intCast_sub]
  generalize ((q.den : Int) : Rat) = D' at *
  rw [Rat.div_def]
  have : D' * D'⁻¹ = 1 := Rat.mul_inv_cancel _ z
  grind
section
variable {P : Pg} [Low P] (n : Nat) (s : St)
theorem whole_ok [Has P "whole" F_whole] (i : Int) : call P (n + 6) "whole" [.int i] s = ok (fr i) s := by
  rw [call_has "whole" n _ _ rfl]
  simp only [F_whole, EVa, EVb, EVc, EVd, EVn]
  rw [show fr (i : Rat) = .tup [.int i, .int 1] by unfold fr; rw [Rat.num_intCast, Rat.den_intCast]; rfl]
theorem minus_ok [Has P "common_divisor" F_common_divisor] [Has P "fraction" F_fraction] [Has P "minus" F_minus] (p q : Rat) (hp : Sm p) (hq : Sm q) : call P (n + 18) "minus" [fr p, fr q] s = ok (fr (p - q)) s := by
  rw [call_has "minus" (n + 12) _ _ rfl]
  have z := den_mul_sm hp hq
  simp only [F_minus, EVa, EVb, EVc, EVd, EVn, b_mul (nabs p hp) (dabs q hq), b_mul (nabs q hq) (dabs p hp), b_mul (dabs p hp) (dabs q hq), fraction_ok _ _ _ _ z.1 z.2, sub_div]
theorem plus_ok [Has P "common_divisor" F_common_divisor] [Has P "fraction" F_fraction] [Has P "plus" F_plus] (p q : Rat) (hp : Sm p) (hq : Sm q) : call P (n + 18) "plus" [fr p, fr q] s = ok (fr (p + q)) s := by
  rw [call_has "plus" (n + 12) _ _ rfl]
  have z := den_mul_sm hp hq
  simp only [F_plus, EVa, EVb, EVc, EVd, EVn, b_mul (nabs p hp) (dabs q hq), b_mul (nabs q hq) (dabs p hp), b_mul (dabs p hp) (dabs q hq), fraction_ok _ _ _ _ z.1 z.2, add_div]
theorem is_less_ok [Has P "is_less" F_is_less] (p q : Rat) (hp : Sm p) (hq : Sm q) : call P (n + 6) "is_less" [fr p, fr q] s = ok (.bl (decide (p < q))) s := by
  rw [call_has "is_less" n _ _ rfl]
  simp only [F_is_less, EVa, EVb, EVc, EVd, EVn, b_mul (nabs p hp) (dabs q hq), b_mul (nabs q hq) (dabs p hp), Rat.lt_iff]
theorem dot_ok [RingFl P] [Has P "dot_value" F_dot_value] {vs : List Int} {d : Int} (g : Rg vs d) (i : Int) (h : i.natAbs ≤ 2 ^ 101) : call P (n + 6) "dot_value" [ringD vs d, .int i] s = ok (.int (dotv vs d i)) s := by
  rw [call_has "dot_value" n _ _ rfl]
  have l0 := g.ne
  have l1 := g.len
  have m0 := Int.emod_nonneg i (show (vs.length : Int) ≠ 0 by omega)
  have m1 := Int.emod_lt_of_pos i (show (0 : Int) < vs.length by omega)
  have q0 := div_abs_le i vs.length (by omega)
  have dd := g.d
  have dm : (d * vs.length).natAbs ≤ 80 := by rw [Int.natAbs_mul]; exact Nat.mul_le_mul dd (show ((vs.length : Int)).natAbs ≤ 8 by omega)
  simp only [F_dot_value, EVa, EVb, EVc, EVd, EVn, a_dots, a_deg, a_many, b_mod (i := i) (j := (vs.length : Int)) (by omega), b_div (i := i) (j := (vs.length : Int)) (by omega) (by omega), Int.fmod_eq_emod_of_nonneg i (show (0 : Int) ≤ vs.length by omega), Int.fdiv_eq_ediv_of_nonneg i (show (0 : Int) ≤ vs.length by omega), sub_ints m0 m1, b_mul (i := d) (j := (vs.length : Int)) (by omega) (by omega), b_mul (i := d * (vs.length : Int)) (j := i / (vs.length : Int)) (by omega) (by omega)]
  rfl
theorem value_ok [Has P "common_divisor" F_common_divisor] [Has P "fraction" F_fraction] [RingFl P] [Has P "dot_value" F_dot_value] [Has P "value_at" F_value_at] {vs : List Int} {d : Int} (g : Rg vs d) (q : Rat) (h : Sm q) : call P (n + 18) "value_at" [ringD vs d, fr q] s = ok (fr (val vs d q)) s := by
  rw [call_has "value_at" (n + 12) _ _ rfl]
  have f0 := floor_abs q h
  have d0 := dotv_abs g q.floor (by omega)
  have d1 := dotv_abs g (q.floor + 1) (by omega)
  have e0 := dabs q h
  have e1 := h.n
  have dp := den_pos' q
  have e2 : (q.floor * q.den).natAbs < 2 ^ 200 := by
    rw [Int.natAbs_mul]
    exact Nat.lt_of_lt_of_le (Nat.mul_lt_mul'' f0 (show ((q.den : Int)).natAbs < 2 ^ 60 by have := h.d; omega)) (by decide)
  simp only [F_value_at, EVa, EVb, EVc, EVd, EVn, b_div (i := q.num) dp e0, num_floor, dot_ok _ _ g q.floor (by omega), dot_ok _ _ g (q.floor + 1) (by omega), b_mul (i := dotv vs d q.floor) (j := (q.den : Int)) (by omega) e0, b_mul (i := q.floor) (j := (q.den : Int)) (by omega) e0, b_mul (i := dotv vs d (q.floor + 1) - dotv vs d q.floor) (j := q.num - q.floor * q.den) (by omega) (by omega), fraction_ok _ _ _ _ dp e0, val_div]
theorem alike_ok [Has P "common_divisor" F_common_divisor] [Has P "fraction" F_fraction] [RingFl P] [Has P "alike_one" F_alike_one] {vs : List Int} {d : Int} (l0 : 0 < vs.length) (l1 : vs.length ≤ 8) (q : Rat) (h : Sm q) : call P (n + 18) "alike_one" [ringD vs d, fr q] s = ok (fr (alk vs.length q)) s := by
  rw [call_has "alike_one" (n + 12) _ _ rfl]
  have z := alk_pos l0 l1 h
  simp only [F_alike_one, EVa, EVb, EVc, EVd, EVn, a_many, b_mul (i := (vs.length : Int)) (j := (q.den : Int)) (by omega) (dabs q h), b_mod (i := q.num) (j := vs.length * q.den) (by omega), fraction_ok _ _ _ _ (den_pos' q) (dabs q h), Int.fmod_eq_emod_of_nonneg q.num (show 0 ≤ vs.length * (q.den : Int) by omega)]
  rfl
end
end Ev
set_option maxHeartbeats 1000000
/-! PlGen: encoded values, lists, dicts, comprehensions, loops. -/
namespace Ev
open PySem
mutual
theorem plain_mono : ∀ (d : D) (n m : Nat), n ≤ m → D.plain d n = true → D.plain d m = true
  | .non, _, _, _, _ => by simp [D.plain]
  | .bl _, _, _, _, _ => by simp [D.plain]
  | .int _, _, _, _, _ => by simp [D.plain]
  | .str x, n, m, _, h => by simpa [D.plain] using h
  | .tup ds, 0, m, _, h => by simp [D.plain] at h
  | .tup ds, n + 1, 0, l, h => by omega
  | .tup ds, n + 1, m + 1, l, h => by
    simp only [D.plain] at h ⊢
    exact plains_mono ds n m (by omega) h
  | .lst ds, 0, m, _, h => by simp [D.plain] at h
  | .lst ds, n + 1, 0, l, h => by omega
  | .lst ds, n + 1, m + 1, l, h => by
    simp only [D.plain] at h ⊢
    exact plains_mono ds n m (by omega) h
  | .dct _, n, _, _, h => by cases n <;> simp [D.plain] at h
  | .obj _ _, n, _, _, h => by cases n <;> simp [D.plain] at h
  | .fn _, n, _, _, h => by cases n <;> simp [D.plain] at h
  | .hand, n, _, _, h => by cases n <;> simp [D.plain] at h
theorem plains_mono : ∀ (ds : List D) (n m : Nat), n ≤ m → D.plains ds n = true → D.plains ds m = true
  | [], _, _, _, _ => by simp [D.plains]
  | d :: ds, n, m, l, h => by
    simp only [D.plains, Bool.and_eq_true] at h ⊢
    exact ⟨plain_mono d n m l h.1, plains_mono ds n m l h.2⟩
end
/-- encodings whose equality is plain -/
structure Enc {α : Type} [DecidableEq α] (e : α → D) (k : Nat) : Prop where
  eq : ∀ a b, D.eq (e a) (e b) = some (decide (a = b))
  pl : ∀ a, D.plain (e a) k = true
section
variable {α β : Type} [DecidableEq α] [DecidableEq β] {e : α → D} {f : β → D} {k m : Nat}
theorem Enc.inj (h : Enc e k) {a b : α} (q : e a = e b) : a = b := by
  have h1 := h.eq a b
  have h2 := h.eq b b
  rw [q, h2] at h1
  simpa using h1.symm
theorem Enc.le (h : Enc e k) (l : k ≤ m) : Enc e m := ⟨h.eq, fun a => plain_mono _ _ _ l (h.pl a)⟩
theorem enc_int : Enc D.int 0 := ⟨fun a b => rfl, fun a => rfl⟩
theorem enc_bl : Enc D.bl 0 := ⟨fun a b => by cases a <;> cases b <;> rfl, fun a => rfl⟩
theorem enc_str : Enc (fun x : {x : Str // PyData.strOk x = true} => D.str x.1) 0 := ⟨fun a b => by
  show some (a.1 == b.1) = _
  congr 1
  by_cases h : a = b
  · subst h; simp
  · rw [decide_eq_false h]
    have : a.1 ≠ b.1 := fun z => h (Subtype.ext z)
    exact beq_eq_false_iff_ne.mpr this, fun a => by show PyData.strOk _ = true; exact a.2⟩
theorem enc_fr : Enc fr 1 := ⟨fun a b => by
  show (match D.eq (.int a.num) (.int b.num), (match D.eq (.int a.den) (.int b.den), some true with
    | some a, some b => some (a && b)
    | _, _ => none) with
    | some a, some b => some (a && b)
    | _, _ => none) = _
  show some ((a.num == b.num) && (((a.den : Int) == (b.den : Int)) && true)) = _
  congr 1
  by_cases h : a = b
  · subst h; simp
  · rw [decide_eq_false h]
    cases h2 : (a.num == b.num) with
    | false => rfl
    | true =>
      have : (a.den : Int) ≠ b.den := fun z => h (Rat.ext (by simpa using h2) (by exact_mod_cast z))
      simp [this], fun a => rfl⟩
theorem enc_pair (h1 : Enc e k) (h2 : Enc f k) : Enc (fun p : α × β => D.tup [e p.1, f p.2]) (k + 1) := ⟨fun a b => by
  show (match D.eq (e a.1) (e b.1), (match D.eq (f a.2) (f b.2), some true with
    | some a, some b => some (a && b)
    | _, _ => none) with
    | some a, some b => some (a && b)
    | _, _ => none) = _
  rw [h1.eq, h2.eq]
  dsimp only
  congr 1
  obtain ⟨a1, a2⟩ := a
  obtain ⟨b1, b2⟩ := b
  simp, fun a => by
  show (D.plain (e a.1) k && (D.plain (f a.2) k && true)) = true
  rw [h1.pl, h2.pl]; rfl⟩
theorem eqs_map (h : Enc e k) : ∀ (l r : List α), D.eqs (l.map e) (r.map e) = some (decide (l = r))
  | [], [] => by simp [D.eqs]
  | [], b :: r => by simp [D.eqs]
  | a :: l, [] => by simp [D.eqs]
  | a :: l, b :: r => by
    simp only [List.map_cons, D.eqs, h.eq, eqs_map h l r]
    simp
theorem plains_map (h : Enc e k) : ∀ (l : List α), D.plains (l.map e) k = true
  | [] => by simp [D.plains]
  | a :: l => by simp [D.plains, h.pl, plains_map h l]
theorem enc_lst (h : Enc e k) : Enc (fun l : List α => D.lst (l.map e)) (k + 1) := ⟨fun a b => by
  show D.eqs _ _ = _
  exact eqs_map h a b, fun a => by
  show D.plains _ k = true
  exact plains_map h a⟩
theorem enc_tup (h : Enc e k) : Enc (fun l : List α => D.tup (l.map e)) (k + 1) := ⟨fun a b => by
  show D.eqs _ _ = _
  exact eqs_map h a b, fun a => by
  show D.plains _ k = true
  exact plains_map h a⟩
theorem Enc.eqD (h : Enc e k) (hk : k ≤ 64) (a b : α) : Ev.eqD (e a) (e b) = some (decide (a = b)) := by
  unfold Ev.eqD
  rw [(h.le hk).pl, (h.le hk).pl, h.eq]
  rfl
theorem Enc.c_eq (h : Enc e k) (hk : k ≤ 64) (a b : α) : cmpD .eq (e a) (e b) = some (.bl (decide (a = b))) := by
  show (Ev.eqD (e a) (e b)).map D.bl = _
  rw [h.eqD hk]
  rfl
theorem Enc.c_ne (h : Enc e k) (hk : k ≤ 64) (a b : α) : cmpD .ne (e a) (e b) = some (.bl (decide (a ≠ b))) := by
  show (Ev.eqD (e a) (e b)).map (fun b => D.bl (!b)) = _
  rw [h.eqD hk]
  simp
theorem Enc.inD (h : Enc e k) (hk : k ≤ 64) (x : α) : ∀ l : List α, Ev.inD (e x) (l.map e) = some (decide (x ∈ l))
  | [] => by simp [Ev.inD]
  | a :: l => by
    simp only [List.map_cons, Ev.inD, h.eqD hk]
    by_cases q : a = x
    · subst q; simp
    · rw [decide_eq_false q]
      dsimp only
      rw [Enc.inD h hk x l]
      have : x ≠ a := fun z => q z.symm
      simp [this]
theorem Enc.c_in (h : Enc e k) (hk : k ≤ 63) (x : α) (l : List α) : cmpD .isin (e x) (.lst (l.map e)) = some (.bl (decide (x ∈ l))) := by
  show (if D.plain (e x) 64 && D.plains (l.map e) 63 then (Ev.inD (e x) (l.map e)).map D.bl else none) = _
  rw [(h.le (show k ≤ 64 by omega)).pl, plains_map (h.le hk), h.inD (by omega)]
  rfl
theorem Enc.c_notin (h : Enc e k) (hk : k ≤ 63) (x : α) (l : List α) : cmpD .notin (e x) (.lst (l.map e)) = some (.bl (decide (x ∉ l))) := by
  show (if D.plain (e x) 64 && D.plains (l.map e) 63 then (Ev.inD (e x) (l.map e)).map (fun b => D.bl (!b)) else none) = _
  rw [(h.le (show k ≤ 64 by omega)).pl, plains_map (h.le hk), h.inD (by omega)]
  simp
theorem Enc.firstIx (h : Enc e k) (hk : k ≤ 64) (x : α) : ∀ l : List α, Ev.firstIx (e x) (l.map e) = if x ∈ l then some (l.idxOf x) else none
  | [] => by simp [Ev.firstIx]
  | a :: l => by
    simp only [List.map_cons, Ev.firstIx, h.eqD hk]
    by_cases q : a = x
    · subst q; simp
    · rw [decide_eq_false q]
      dsimp only
      rw [Enc.firstIx h hk x l]
      have q' : x ≠ a := fun z => q z.symm
      by_cases w : x ∈ l
      · rw [List.idxOf_cons, show (a == x) = false by simpa using q]; simp [w, q']
      · simp [w, q']
theorem Enc.indexD (h : Enc e k) (hk : k ≤ 63) {x : α} {l : List α} (hx : x ∈ l) : Ev.indexD (l.map e) (e x) = some (.int (l.idxOf x : Nat)) := by
  unfold Ev.indexD
  rw [(h.le (show k ≤ 64 by omega)).pl, plains_map (h.le hk), h.firstIx (by omega), if_pos hx]
  rfl
theorem Enc.dEq (h : Enc e k) (a b : α) : Ev.dEq (e a) (e b) = decide (a = b) := by
  unfold Ev.dEq
  rw [h.eq]
theorem Enc.eq_t (h : Enc e k) (hk : k ≤ 64) {a b : α} (q : a = b) : cmpD .eq (e a) (e b) = some (.bl true) := by rw [h.c_eq hk, decide_eq_true q]
theorem Enc.eq_f (h : Enc e k) (hk : k ≤ 64) {a b : α} (q : a ≠ b) : cmpD .eq (e a) (e b) = some (.bl false) := by rw [h.c_eq hk, decide_eq_false q]
theorem Enc.ne_t (h : Enc e k) (hk : k ≤ 64) {a b : α} (q : a ≠ b) : cmpD .ne (e a) (e b) = some (.bl true) := by rw [h.c_ne hk, decide_eq_true q]
theorem Enc.ne_f (h : Enc e k) (hk : k ≤ 64) {a b : α} (q : a = b) : cmpD .ne (e a) (e b) = some (.bl false) := by rw [h.c_ne hk, decide_eq_false (by simpa using q)]
theorem Enc.in_t (h : Enc e k) (hk : k ≤ 63) {x : α} {l : List α} (q : x ∈ l) : cmpD .isin (e x) (.lst (l.map e)) = some (.bl true) := by rw [h.c_in hk, decide_eq_true q]
theorem Enc.in_f (h : Enc e k) (hk : k ≤ 63) {x : α} {l : List α} (q : x ∉ l) : cmpD .isin (e x) (.lst (l.map e)) = some (.bl false) := by rw [h.c_in hk, decide_eq_false q]
theorem Enc.notin_t (h : Enc e k) (hk : k ≤ 63) {x : α} {l : List α} (q : x ∉ l) : cmpD .notin (e x) (.lst (l.map e)) = some (.bl true) := by rw [h.c_notin hk, decide_eq_true q]
theorem Enc.notin_f (h : Enc e k) (hk : k ≤ 63) {x : α} {l : List α} (q : x ∈ l) : cmpD .notin (e x) (.lst (l.map e)) = some (.bl false) := by rw [h.c_notin hk, decide_eq_false (by simpa using q)]
/-- a dict with encoded keys -/
def encD (e : α → D) (l : List (α × D)) : List (D × D) := l.map fun p => (e p.1, p.2)
def aPut : List (α × D) → α → D → List (α × D)
  | [], x, v => [(x, v)]
  | (a, w) :: r, x, v => if a = x then (a, v) :: r else (a, w) :: aPut r x v
def aLook : List (α × D) → α → Option D
  | [], _ => none
  | (a, w) :: r, x => if a = x then some w else aLook r x
theorem Enc.dLook (h : Enc e k) (x : α) : ∀ l : List (α × D), Ev.dLook (encD e l) (e x) = aLook l x
  | [] => rfl
  | (a, w) :: r => by
    show (if Ev.dEq (e a) (e x) = true then some w else Ev.dLook (encD e r) (e x)) = _
    rw [h.dEq, Enc.dLook h x r]
    show _ = (if a = x then some w else aLook r x)
    simp
theorem Enc.dPut (h : Enc e k) (x : α) (v : D) : ∀ l : List (α × D), Ev.dPut (encD e l) (e x) v = encD e (aPut l x v)
  | [] => rfl
  | (a, w) :: r => by
    show (if Ev.dEq (e a) (e x) = true then (e a, v) :: encD e r else (e a, w) :: Ev.dPut (encD e r) (e x) v) = _
    rw [h.dEq, Enc.dPut h x v r]
    show _ = encD e (if a = x then (a, v) :: r else (a, w) :: aPut r x v)
    by_cases q : a = x
    · simp [q, encD]
    · simp [q, encD]
theorem aLook_none {l : List (α × D)} {x : α} : (aLook l x).isSome = decide (x ∈ l.map (·.1)) := by
  induction l with
  | nil => rfl
  | cons p r ih =>
    obtain ⟨a, w⟩ := p
    unfold aLook
    by_cases q : a = x
    · simp [q]
    · rw [if_neg q, ih]
      have : x ≠ a := fun z => q z.symm
      simp [this]
theorem aPut_new {x : α} {v : D} : ∀ {l : List (α × D)}, x ∉ l.map (·.1) → aPut l x v = l ++ [(x, v)]
  | [], _ => rfl
  | (a, w) :: r, h => by
    unfold aPut
    have q : a ≠ x := fun z => h (by simp [z])
    rw [if_neg q, aPut_new (fun z => h (by simp at z ⊢; exact .inr z))]
    rfl
/-- may it be a dict's key? -/
def Key (e : α → D) : Prop := ∀ a, (nkT (e a)).isSome = true
theorem Enc.c_inD (h : Enc e k) (hk : Key e) (x : α) (l : List (α × D)) : cmpD .isin (e x) (.dct (encD e l)) = some (.bl (decide (x ∈ l.map (·.1)))) := by
  show (if (nkT (e x)).isSome = true then some (D.bl (Ev.dLook (encD e l) (e x)).isSome) else none) = _
  rw [if_pos (hk x), h.dLook, aLook_none]
theorem Enc.c_notinD (h : Enc e k) (hk : Key e) (x : α) (l : List (α × D)) : cmpD .notin (e x) (.dct (encD e l)) = some (.bl (decide (x ∉ l.map (·.1)))) := by
  show (if (nkT (e x)).isSome = true then some (D.bl (!(Ev.dLook (encD e l) (e x)).isSome)) else none) = _
  rw [if_pos (hk x), h.dLook, aLook_none]
  simp
theorem Enc.inD_t (h : Enc e k) (hk : Key e) {x : α} {l : List (α × D)} (q : x ∈ l.map (·.1)) : cmpD .isin (e x) (.dct (encD e l)) = some (.bl true) := by rw [h.c_inD hk, decide_eq_true q]
theorem Enc.inD_f (h : Enc e k) (hk : Key e) {x : α} {l : List (α × D)} (q : x ∉ l.map (·.1)) : cmpD .isin (e x) (.dct (encD e l)) = some (.bl false) := by rw [h.c_inD hk, decide_eq_false q]
theorem Enc.notinD_t (h : Enc e k) (hk : Key e) {x : α} {l : List (α × D)} (q : x ∉ l.map (·.1)) : cmpD .notin (e x) (.dct (encD e l)) = some (.bl true) := by rw [h.c_notinD hk, decide_eq_true q]
theorem Enc.notinD_f (h : Enc e k) (hk : Key e) {x : α} {l : List (α × D)} (q : x ∈ l.map (·.1)) : cmpD .notin (e x) (.dct (encD e l)) = some (.bl false) := by rw [h.c_notinD hk, decide_eq_false (by simpa using q)]
theorem Enc.subD (h : Enc e k) (hk : Key e) (x : α) (l : List (α × D)) : Ev.subD (.dct (encD e l)) (e x) = aLook l x := by
  have : Ev.subD (.dct (encD e l)) (e x) = if (nkT (e x)).isSome = true then Ev.dLook (encD e l) (e x) else none := by
    cases e x <;> rfl
  rw [this, if_pos (hk x), h.dLook]
theorem key_fr : Key fr := fun a => rfl
theorem key_pair : Key (fun p : Rat × Rat => D.tup [fr p.1, fr p.2]) := fun a => rfl
end
/-! ### comprehensions -/
section
variable {α : Type}
theorem mapGo_c (f : D → St → Out (Option D)) (d : D) (ds : List D) (s : St) : mapGo f (d :: ds) s = bnd (f d s) fun y s => bnd (mapGo f ds s) fun ys s => ok (consO y ys) s := rfl
theorem mapGo_enc {f : D → St → Out (Option D)} {e : α → D} {g : α → Option D} {s : St} : ∀ {l : List α}, (∀ a ∈ l, f (e a) s = ok (g a) s) → mapGo f (l.map e) s = ok (l.filterMap g) s
  | [], _ => rfl
  | a :: l, h => by
    rw [List.map_cons, mapGo_c, h a (by simp), bnd_ok, mapGo_enc (fun b hb => h b (by simp [hb])), bnd_ok, List.filterMap_cons]
    cases g a <;> rfl
theorem mapGo_map {f : D → St → Out (Option D)} {e g : α → D} {s : St} {l : List α} (h : ∀ a ∈ l, f (e a) s = ok (some (g a)) s) : mapGo f (l.map e) s = ok (l.map g) s := by
  rw [mapGo_enc (g := fun a => some (g a)) h]
  simp
theorem mapGo1 {f : D → St → Out (Option D)} {s : St} {a b : D} (h : f a s = ok (some b) s) : mapGo f [a] s = ok [b] s := by
  rw [mapGo_c, h, bnd_ok]
  rfl
theorem mapGo2 {f : D → St → Out (Option D)} {s : St} {a b c d : D} (h : f a s = ok (some b) s) (h2 : f c s = ok (some d) s) : mapGo f [a, c] s = ok [b, d] s := by
  rw [mapGo_c, h, bnd_ok, mapGo1 h2]
  rfl
theorem mapGo_filter {f : D → St → Out (Option D)} {e g : α → D} {p : α → Bool} {s : St} {l : List α} (h : ∀ a ∈ l, f (e a) s = ok (if p a = true then some (g a) else none) s) : mapGo f (l.map e) s = ok ((l.filter p).map g) s := by
  rw [mapGo_enc (g := fun a => if p a = true then some (g a) else none) h]
  congr 1
  clear h
  induction l with
  | nil => rfl
  | cons a l ih =>
    rw [List.filterMap_cons, List.filter_cons]
    cases p a <;> simp [ih]
theorem dictGo_c (f : D → St → Out (Option (D × D))) (d : D) (ds : List D) (acc : List (D × D)) (s : St) : dictGo f (d :: ds) acc s = bnd (f d s) fun y s => match y with
    | some (k, v) => if (nkT k).isSome = true then dictGo f ds (dPut acc k v) s else none
    | none => dictGo f ds acc s := rfl
theorem dictGo_enc {β : Type} [DecidableEq β] {f : D → St → Out (Option (D × D))} {e : α → D} {e' : β → D} {k : Nat} {g : α → β} {v : α → D} {s : St} (he : Enc e' k) (hk : Key e') : ∀ {l : List α} {acc : List (β × D)}, (∀ a ∈ l, f (e a) s = ok (some (e' (g a), v a)) s) → dictGo f (l.map e) (encD e' acc) s = ok (encD e' (l.foldl (fun acc a => aPut acc (g a) (v a)) acc)) s
  | [], _, _ => rfl
  | a :: l, acc, h => by
    rw [List.map_cons, dictGo_c, h a (by simp), bnd_ok]
    dsimp only
    rw [if_pos (hk _), he.dPut, dictGo_enc he hk (fun b hb => h b (by simp [hb]))]
    rfl
/-- with new keys alone -/
theorem puts_new {β : Type} [DecidableEq β] {g : α → β} {v : α → D} : ∀ {l : List α} {acc : List (β × D)}, ((acc.map (·.1)) ++ l.map g).Nodup → l.foldl (fun acc a => aPut acc (g a) (v a)) acc = acc ++ l.map fun a => (g a, v a)
  | [], acc, _ => by simp
  | a :: l, acc, h => by
    rw [List.foldl_cons, aPut_new, puts_new]
    · simp
    · simpa [List.append_assoc] using h
    · intro z
      rw [List.map_cons, List.nodup_append] at h
      exact h.2.2 _ z _ (by simp) rfl
theorem aPut_keys {β : Type} [DecidableEq β] {x : β} {v : D} : ∀ {l : List (β × D)}, (aPut l x v).map (·.1) = if x ∈ l.map (·.1) then l.map (·.1) else l.map (·.1) ++ [x]
  | [] => by simp [aPut]
  | (a, w) :: r => by
    unfold aPut
    by_cases q : a = x
    · simp [q]
    · have q' : x ≠ a := fun z => q z.symm
      rw [if_neg q, List.map_cons, aPut_keys]
      by_cases w : x ∈ r.map (·.1)
      · simp [w, q']
      · simp [w, q']
theorem aPut_len_le {β : Type} [DecidableEq β] {x : β} {v : D} {l : List (β × D)} : (aPut l x v).length ≤ l.length + 1 := by
  have h := congrArg List.length (aPut_keys (x := x) (v := v) (l := l))
  rw [List.length_map] at h
  rw [h]
  split <;> simp
theorem puts_len_le {β : Type} [DecidableEq β] {g : α → β} {v : α → D} : ∀ {l : List α} {acc : List (β × D)}, (l.foldl (fun acc a => aPut acc (g a) (v a)) acc).length ≤ acc.length + l.length
  | [], acc => by simp
  | a :: l, acc => by
    rw [List.foldl_cons]
    have h1 := puts_len_le (g := g) (v := v) (l := l) (acc := aPut acc (g a) (v a))
    have h2 := aPut_len_le (x := g a) (v := v a) (l := acc)
    rw [List.length_cons]
    omega
/-- with a key that is there -/
theorem puts_old {β : Type} [DecidableEq β] {g : α → β} {v : α → D} : ∀ {l : List α} {acc : List (β × D)}, (acc.map (·.1)).Nodup → ¬ ((acc.map (·.1)) ++ l.map g).Nodup → (l.foldl (fun acc a => aPut acc (g a) (v a)) acc).length < acc.length + l.length
  | [], acc, h, h2 => by simp at h2; exact absurd h h2
  | a :: l, acc, h, h2 => by
    rw [List.foldl_cons]
    by_cases z : g a ∈ acc.map (·.1)
    · have h1 := puts_len_le (g := g) (v := v) (l := l) (acc := aPut acc (g a) (v a))
      have h3 := congrArg List.length (aPut_keys (x := g a) (v := v a) (l := acc))
      rw [List.length_map, if_pos z, List.length_map] at h3
      rw [List.length_cons]
      omega
    · have h1 := puts_old (g := g) (v := v) (l := l) (acc := aPut acc (g a) (v a))
      rw [aPut_keys, if_neg z] at h1
      have h3 : (acc.map (·.1) ++ [g a]).Nodup := by
        rw [List.nodup_append]
        exact ⟨h, by simp, fun x hx y hy e => by simp at hy; subst hy; exact z (e ▸ hx)⟩
      have h4 := h1 h3 (by simpa [List.append_assoc] using h2)
      have h5 := aPut_len_le (x := g a) (v := v a) (l := acc)
      rw [List.length_cons]
      omega
end
/-! ### loops -/
def forC (f : D → Env → St → Out Fl) (ds : List D) : Fl → St → Out Fl := fun r s => match r with
    | .nx ρ' => forGo f ds ρ' s
    | .cnt ρ' => forGo f ds ρ' s
    | .brk ρ' => ok (.nx ρ') s
    | .ret ρ' d => ok (.ret ρ' d) s
theorem for_nil (f : D → Env → St → Out Fl) (ρ : Env) (s : St) : forGo f [] ρ s = ok (.nx ρ) s := rfl
theorem for_cons (f : D → Env → St → Out Fl) (d : D) (ds : List D) (ρ : Env) (s : St) : forGo f (d :: ds) ρ s = bnd (f d ρ s) (forC f ds) := rfl
theorem forC_nx (f : D → Env → St → Out Fl) (ds : List D) (ρ : Env) (s : St) : forC f ds (.nx ρ) s = forGo f ds ρ s := rfl
theorem forC_cnt (f : D → Env → St → Out Fl) (ds : List D) (ρ : Env) (s : St) : forC f ds (.cnt ρ) s = forGo f ds ρ s := rfl
theorem forC_brk (f : D → Env → St → Out Fl) (ds : List D) (ρ : Env) (s : St) : forC f ds (.brk ρ) s = ok (.nx ρ) s := rfl
theorem forC_ret (f : D → Env → St → Out Fl) (ds : List D) (ρ : Env) (d : D) (s : St) : forC f ds (.ret ρ d) s = ok (.ret ρ d) s := rfl
def EVf := And.intro @for_nil <| And.intro @for_cons <| And.intro @forC_nx <| And.intro @forC_cnt <| And.intro @forC_brk <| @forC_ret
end Ev
set_option maxHeartbeats 4000000
/-! EvWord: the word's def. -/
namespace Ev
open PySem PySem.Spec PyProof.Rows L2
/-- what is known of an error's class -/
structure ErrC (K : PySem.W.Frag) (mg : Str → Option Value) (CR C : Addr) (exs : List (Str × Bool)) : Prop where
  c : ExcC K C
  m : PySem.W.exmOne K (.ref C) (.ref CR) = some true
  i : ∀ u b, exs.lookup u = some b → (∃ a, mg u = some (.ref a) ∧ PySem.W.kitOne K (.ref C) (.ref a) = some b) ∨ ∃ n, mg u = none ∧ bootBuiltins u = some (.type n) ∧ PySem.W.kitOne K (.ref C) (.type n) = some b
/-- the suite's own naming: its own object is the hand -/
def KW (k : Kx) (a : Addr) : Kx := { k with cls := fun _ => none, ecl := fun _ => none, fns := fun _ => none, fl := fun _ => [], ha := a }
section
variable {k : Kx} {X : Cx}
theorem hotGood {a C CR : Addr} {oe : Obj} {pn : List (Addr × Obj)} {N : List Str} {sg : Scope} {exs : List (Str × Bool)} (hK : X.K = k.K) (hw : X.w = k.w) (hN : X.N = N) (nd : N.Nodup) (hsc : X.env.scope = sg) (hfn : X.fn = fun _ => true) (blt : ∀ x ∈ BLT, X.mg x = none) (u : X.A.units + 65 < cLine)
    (e : ErrC X.K X.mg CR C exs) (hz : Zc (.ref C) none oe) (hd : ∃ vs, oe.data = .fields vs) :
    Good (KW k a) P0 0 ⟨N, sg, fun _ => true, false, true, exs, ""⟩ Bot (X.suite a ((a, oe) :: pn)) where
  hK := hK
  hw := hw
  hN := hN
  nd := nd
  sc := hsc
  fn := hfn
  calm := fun h => by cases h
  exI := fun y b i x p p1 p2 pos h hx hv hx2 hi hy hy2 => by
    have hvis : Vis (X.suite a ((a, oe) :: pn)).env.scope x := by rw [show (X.suite a ((a, oe) :: pn)).env.scope = sg from hsc]; exact hv
    have gi : Gl (X.suite a ((a, oe) :: pn)) "isinstance" := by unfold Gl; show X.env.scope.names.lookup _ = _; rw [hsc]; exact hi
    have gy : Gl (X.suite a ((a, oe) :: pn)) y := by unfold Gl; show X.env.scope.names.lookup _ = _; rw [hsc]; exact hy
    have key : ∀ {v : V} {cv : Value} {σ : L2.St} {H : Hp} {Q : VK}, (∀ u, RelV v u → u = cv) → PySem.W.kitOne X.K (.ref C) cv = some b → tE (KW k a) Bot (cfOf P0 0) (.exi i b) σ H Q → tCB (rIsE X.K C a) (tCons (tVar i) (tCons (tC v) tNil)) σ H Q := by
      rintro v cv σ H Q h1 h2 ⟨B, F, ρ, s, ok, q⟩
      have q : Post (KW k a) Bot F H s (match ρ.at i with
        | .v .hand => Ev.ok (.bl b) s
        | _ => none) fun d _ F' H' => ∀ v, Rep (KW k a) F' v d → Q v H' := q
      cases e1 : ρ.at i with
      | v d =>
        rw [e1] at q
        cases d with
        | hand =>
          obtain ⟨w, e2, r⟩ := ok.val (i := i) (d := .hand) (by rw [e1]; rfl)
          cases r
          exact ⟨_, e2, v, cv, b, rfl, h1, h2, q F H ok.self _ (.bl b)⟩
        | _ => exact q.elim
      | _ => rw [e1] at q; exact q.elim
    rcases e.i y b h with ⟨c, hm, hk⟩ | ⟨n, hm, hb, hk⟩
    · exact PEw (pe_callB (call_isE e.c hz hd) gi (blt _ (by decide)) (by decide +kernel) (pa_cons (pe_var (i := i) (by show X.N[i]? = _; rw [hN]; exact hx) hvis hx2.1 hx2.2) (pa_cons (pe_glob (v := .ref c) gy hm rfl hy2.1) pa_nil))) fun σ H Q q => key (fun u hu => hu) hk q
    · exact PEw (pe_callB (call_isE e.c hz hd) gi (blt _ (by decide)) (by decide +kernel) (pa_cons (pe_var (i := i) (by show X.N[i]? = _; rw [hN]; exact hx) hvis hx2.1 hx2.2) (pa_cons (pe_bltn (v := .ty n) gy hm hb rfl hy2.2 hy2.1) pa_nil))) fun σ H Q q => key (fun u hu => hu) hk q
  po := PassesOwn.never
  room := fun h => by cases h
  u65 := u
  tk := takes0
  fl := rfl
  blt := blt
  gl := fun _ _ h => by cases h
  calls := fun _ _ _ _ h => by cases h
  objs := fun _ _ h => by cases h
  objT := fun _ _ h => by cases h
  ownN := fun _ _ h => by cases h
  clsG := fun _ _ h => by cases h
  news := fun _ _ h => by cases h
  hnl := Nat.le_refl 0
  wds := fun h => by cases h
  hfn := fun _ h => by cases h
  hcl := fun _ h => by cases h
  hex := fun _ h => by cases h
  isi := (bd0 (k := k) (prog := X.prog) (base := X.base) (mg := X.mg) hK hw blt).isi
/-- the state in which a suite begins -/
theorem hot_start {a : Addr} {H : Hp} {σ : L2.St} {ρ : Env} (t : LamX.Tabs k.tb H) (hl : σ.length = ρ.length) (h1 : ∀ i, ρ.at i = .no ∨ (ρ.at i = .v .hand ∧ σ[i]? = some (some (.ref a)))) : EnvOk (KW k a) ⟨fun _ => none, H, none, fun _ => none⟩ (fun _ => none) H σ ρ none := by
  refine ⟨Ext.refl (fun _ _ h => by cases h) ⟨⟨fun q h => ⟨rfl, t q h⟩, fun b ps h => by cases h⟩, fun x h => by cases h⟩, fun _ _ h => h, hl, fun _ => 0, fun i => ?_, fun i j _ o _ => ?_, fun i o => ?_⟩
  · rcases h1 i with e | ⟨e, e2⟩
    · rw [e]; trivial
    · rw [e, e2]
      exact (Rep.hand : Rep (KW k a) _ (.ref (KW k a).ha) .hand)
  all_goals
    exfalso
    rcases h1 i with e | ⟨e, _⟩ <;> rw [e] at o <;> cases o
def rhoW : Env := [.no, .v .hand, .no]
/-- what the suite is, by the class -/
def tWd (k : Kx) (P : Pg) (core : Str → List S) (a : Addr) (cls : Value) (d : Option Addr) : TS := fun D σ H => ∃ x C wd, k.ecl x = some C ∧ cls = .ref C ∧ d = none ∧ P.wrd (some x) = some wd ∧ (σ.length = 3 → tSs (KW k a) Bot (cfOf P0 0) (core x) D σ H)
theorem word_gives {P : Pg} {Ng : List Str} {sg : Scope} {g CR : Addr} {cdv : Value} {q wl : Str} {core : Str → List S} {exs : Str → List (Str × Bool)} {b0 : Stmt} {suite : List Stmt} {j : Nat} {p1 p2 p3 p4 p5 p6 p7 p8 : Pos} (hK : X.K = k.K) (hw : X.w = k.w) (blt : ∀ x ∈ BLT, X.mg x = none) (hr : Room 0 X.A)
    (S : FnScope Ng ["call"] sg) (hN0 : Ng[0]? = some ("call" : Str)) (hN1 : Ng[1]? = some ("error" : Str)) (h3 : Ng.length = 3) (hln : sg.names.lookup ("error" : Str) = some .local) (hge : sg.names.lookup ("RingError" : Str) = some .globalImplicit) (hme : X.mg "RingError" = some (.ref CR))
    (hcls : ∀ x C wd, k.ecl x = some C → P.wrd (some x) = some wd → ErrC X.K X.mg CR C (exs x) ∧ chkSs P0 ⟨Ng, sg, fun _ => true, false, true, exs x, ""⟩ (core x) (b0 :: suite) = true ∧ ∃ ρ, evSs (cfOf P0 0) (core x) rhoW none = Ev.ok (.ret ρ (.str wd)) none)
    (hwl : P.wrd none = some wl) :
    LamX.GivesTo X Ng "_law_word" sg g cdv [.Try [.Expr (.Call (.Name "call" p1) [] [] p2) p3] [.ExceptHandler (some (.Name "RingError" p4)) (some "error") (b0 :: suite) p5] [] [] p6, .Return (some (.Constant (.str wl) j p7)) p8] "call" q (TTw k P) := by
  intro f c' s H Q tl act hc h
  have hgl : Gl (cxOf C8.CX0 X.prog X.w X.K X.mg X.base Ng "_law_word" sg g cdv X.A X.stack s H C8.E0).nox "RingError" := hge
  refine ⟨_, pss_cons (ps_try_as (X := (cxOf C8.CX0 X.prog X.w X.K X.mg X.base Ng "_law_word" sg g cdv X.A X.stack s H C8.E0).nox) (c := .ref CR) (i := 1) (Wout := fun _ _ _ _ => False)
      (tb := fun W D σ H => ∃ Ech : XK, (∀ cls d σ' H', Ech cls d H' → W cls d σ' H') ∧ σ[0]? = some (some (.ref f)) ∧ H c' = some (LamX.CodeO c' q) ∧ tl Ech H (fun _ H1 => D.nx σ H1))
      (ts := tWd k P core) rfl rfl S.nd hN1 hln ⟨hgl, by decide, .inl hme⟩ LamX.takes0 (fun W pn xe tk _ => ?_) (fun a oe cls d pn hz hd => ?_))
    (PSsw (t' := fun D σ H => ∃ wd, P.wrd none = some wd ∧ D.rt (.str wd) H) (pss_one (ps_ret pe_str)) fun D σ H ⟨wd, e, q⟩ => ?_), ?_⟩
  · refine ⟨fun pins s' σ H' D I h' => ?_⟩
    obtain ⟨Ech, hW, h1, h2, h3⟩ := h'
    exact (pss_one (ps_expr (pos := p3) (act W pn xe Ech p1 p2 tk hW))).run pins s' σ H' D I ⟨h1, h2, h3⟩
  · refine ⟨fun pins s' σ H' D I ⟨x, C, wd, e1, hcl, hd0, e2, q⟩ => ?_⟩
    subst hcl hd0
    obtain ⟨k1, k2, _⟩ := hcls x C wd e1 e2
    have gd := hotGood (k := k) (a := a) (X := (cxOf C8.CX0 X.prog X.w X.K X.mg X.base Ng "_law_word" sg g cdv X.A X.stack s H C8.E0).nox) (N := Ng) (sg := sg) (pn := pn) hK hw rfl S.nd rfl rfl blt (by have := hr.un; show X.A.units + 3 + 65 < _; omega) k1 hz hd
    exact (sSs (core x) Bot _ _ gd S.kind k2).run pins s' σ H' D I (q (I.len.trans h3))
  · have e : wl = wd := Option.some.inj (hwl.symm.trans e)
    subst e
    exact q
  · refine ⟨fun cls d H' => ∃ x C wd, k.ecl x = some C ∧ cls = .ref C ∧ d = none ∧ P.wrd (some x) = some wd ∧ LamX.Tabs k.tb H' ∧ ∀ H'', LamX.ExtN H' H'' → LamX.Tabs k.tb H'' → Q (.str wd) H'', ?_, ?_, hc, h⟩
    · rintro cls d σ' H' ⟨x, C, wd, e1, rfl, rfl, e2, t, e3⟩
      obtain ⟨k1, _, ρ, k3⟩ := hcls x C wd e1 e2
      refine ⟨true, k1.m, fun _ a na => ⟨x, C, wd, e1, rfl, rfl, e2, fun hl => ?_⟩, fun z => by cases z⟩
      have hl' : 1 < σ'.length := by rw [List.length_set] at hl; omega
      refine ⟨_, _, rhoW, none, hot_start t hl fun i => ?_, ?_⟩
      · match i with
        | 0 => exact .inl rfl
        | 1 => exact .inr ⟨rfl, by rw [List.getElem?_set_self hl']⟩
        | 2 => exact .inl rfl
        | i + 3 => exact .inl rfl
      · rw [k3]
        intro F' H2 σ2 v ok r
        cases r
        refine e3 H2 (fun b o z n => ok.ext.hx b o z n fun m => ?_) fun r hr => (ok.ext.hand.1.1 r hr).2
        rcases m with ⟨m, _⟩ | m
        · cases m
        · obtain ⟨p, hp, rfl⟩ := List.mem_map.mp m
          obtain ⟨ps, z2, _⟩ := t p hp
          rw [z] at z2
          exact n ps (Option.some.inj z2)
    · show (L2.start Ng [V.ref f])[0]? = _
      unfold L2.start
      rfl
end
end Ev
set_option maxHeartbeats 4000000
/-! EvHand: the hand is made. -/
namespace Ev
open PySem PySem.Spec PyProof.Rows L2
def aI (i : Int) : Int := (i.natAbs : Nat)
theorem intsI (l : List Int) : intsD (l.map D.int) = some l := by
  induction l with
  | nil => rfl
  | cons a l ih => simp only [List.map_cons, intsD, ih, Option.map_some]
def LIT (ns : List Int) : C := .lst (ns.map C.int)
def HEl : C := .blt .abs [.blt .int [.var 2]]
def HComp (ns : List Int) : C := .comp [2] (.one 2) (.seq (LIT ns)) none HEl
def HRet (A B : Int) : C := .lst [.var 1, .int 0, .int 0, .bin .add (.int A) (.bin .mul (.int B) (.blt .len [.var 1])), .int 0]
theorem ev_ints (Y : Cf) (ρ : Env) (s : St) : ∀ ns : List Int, evEs Y (ns.map C.int) ρ s = Ev.ok (ns.map D.int) s
  | [] => rfl
  | n :: ns => by
    show bnd (Ev.ok (D.int n) s) (fun d s => bnd (evEs Y (ns.map C.int) ρ s) fun ds s => Ev.ok (d :: ds) s) = _
    show bnd (evEs Y (ns.map C.int) ρ s) (fun ds s => Ev.ok (.int n :: ds) s) = _
    rw [ev_ints Y ρ s ns]
    rfl
theorem ev_LIT {Y : Cf} {ρ : Env} {s : St} {ns : List Int} (h : ns.length ≤ 63) : evE Y (LIT ns) ρ s = Ev.ok (.lst (ns.map D.int)) s := by
  show bnd (evEs Y (ns.map C.int) ρ s) (fun ds s => Ev.lift (guardD (decide (ds.length ≤ lim)) (.lst ds)) s) = _
  rw [ev_ints]
  show Ev.lift (guardD (decide ((ns.map D.int).length ≤ lim)) (.lst (ns.map D.int))) s = _
  unfold guardD
  rw [if_pos (decide_eq_true (by rw [List.length_map]; exact Nat.le_trans h (by decide)))]
  rfl
theorem reps_i {k : Kx} {F : Hp} : ∀ ns : List Int, Reps k F (ns.map V.int) (ns.map D.int)
  | [] => .nil
  | n :: ns => .cons (.int n) (reps_i ns)
theorem cut63 {ns : List Int} (h : ns.length ≤ 63) : cutV (ns.map V.int) none (some 63) = ns.map V.int := by
  have h0 : ∀ n : Nat, HT.sIx n 0 none = 0 := fun n => rfl
  have h1 : HT.sIx (ns.map V.int).length (ns.map V.int).length (some 63) = (ns.map V.int).length := by
    rw [List.length_map]
    rw [show (some (63 : Int)) = some ((63 : Nat) : Int) from rfl, HT.sIx_nat]
    omega
  unfold cutV
  rw [h0, h1, List.drop_zero, Nat.sub_zero, List.take_length]
section
variable {k : Kx} {P : Pg} {n : Nat} {c : Ck} {W : XK} {X : Cx}
/-- script[:63], the script a list of the read part -/
theorem pe_script (g : Good k P n c W X) {a : Addr} {ns : List Int} {x : Str} {j : Nat} {p1 p2 p3 p4 : Pos} (h0 : c.N[0]? = some x) (hv : visB c x = true) (ho : okN x = true) (hl : ns.length ≤ 63) :
    PE X (.Subscript (.Name x p1) (.Slice none (some (.Constant (.int 63) j p2)) none p3) p4) (fun σ H Q => (σ[0]? = some (some (.ref a)) ∧ SqL X.K H a (ns.map V.int)) ∧ tW k W (cfOf P n) true (LIT ns) σ H Q) := by
  refine PEw (pe_slice sl_list (pe_var (i := 0) (by rw [g.hN]; exact h0) (g.vis hv) (okN_d ho).1 (okN_d ho).2.1) po_none (po_some pe_int)) fun σ H Q ⟨⟨e1, e2⟩, B, F, ρ, s, ok, q⟩ => ?_
  refine ⟨_, e1, 63, rfl, a, ns.map V.int, rfl, e2, fun p np => ?_⟩
  rw [ev_LIT hl] at q
  rw [cut63 hl]
  have q : ∀ F' H', Ext k F H s F' H' s → ∀ (v : V), RepB k F' H' s v (.lst (ns.map D.int)) → (∀ (ds : List Ev.D), Ev.D.lst (ns.map D.int) = .lst ds → true = false → Rep k F' v (.lst (ns.map D.int))) → Q v H' := q
  exact q (upd F p (.lst (ns.map V.int))) _ (Ext.newS ok.ext.fh ok.ext.hand np) (.ref p) (.inl (.lst upd_same (reps_i ns))) fun _ _ z => by cases z
theorem pi_script (g : Good k P n c W X) {a : Addr} {ns : List Int} {x : Str} {j : Nat} {tg : Expr} {p1 p2 p3 p4 : Pos} (h0 : c.N[0]? = some x) (hv : visB c x = true) (ho : okN x = true) (hl : ns.length ≤ 63) :
    PI X tg (.Subscript (.Name x p1) (.Slice none (some (.Constant (.int 63) j p2)) none p3) p4) (fun σ H R => (σ[0]? = some (some (.ref a)) ∧ SqL X.K H a (ns.map V.int)) ∧ tI k W (cfOf P n) true (.seq (LIT ns)) σ H R) := by
  refine PIw (pi_any (pe_script g (a := a) (ns := ns) h0 hv ho hl)) fun σ H R ⟨e, B, F, ρ, s, ok, q⟩ => ⟨e, B, F, ρ, s, ok, ?_⟩
  refine (Post.bnd (show Post k W F H s (bnd (borIf true (LIT ns) ρ s (evE (cfOf P n) (LIT ns) ρ s)) _) _ from q)).mono fun x s1 F1 H1 E1 q v r f => ?_
  obtain ⟨ds, e, q⟩ := Post.lift q
  have q := q F1 H1 (Ext.refl E1.fh E1.hand)
  rw [g.hK]
  obtain ⟨p, rfl, ⟨h1, h2⟩ | ⟨h1, h2⟩⟩ := walk_of (w := true) E1.fh r f e
  · exact ⟨p, rfl, .inl ⟨h1, q _ h2⟩⟩
  · exact ⟨p, rfl, .inr ⟨h1, q _ h2⟩⟩
/-- cells = [abs(int(cell)) for cell in script[:63]] -/
def chkH1 (P : Pg) (c : Ck) (st : Stmt) : Bool := match st with
  | .Assign [.Name y py] (.ListComp elt [⟨tg, .Subscript (.Name x p1) (.Slice none (some (.Constant (.int j) i p2)) none p3) p4, [], 0⟩] scope ps) pos =>
    nmB c 1 y && decide (c.sc.names.lookup y = some .local) && decide (c.N[0]? = some x) && visB c x && okN x && decide (j = 63) && decide (swC c y py (.ListComp elt [⟨tg, .Subscript (.Name x p1) (.Slice none (some (.Constant (.int j) i p2)) none p3) p4, [], 0⟩] scope ps) = some true) &&
      blkC c.N c.sc scope (ownP c [2]) && chkG (c.blk scope) (.one 2) tg && chkE P (c.blk scope) HEl elt && decide (py.line = pos.line)
  | _ => false
theorem hand1 (g : Good k P n c W X) (hh : c.hot = false) (hk : c.sc.kind = .function) {st : Stmt} (h : chkH1 P c st = true) {a : Addr} {ns : List Int} (hl : ns.length ≤ 63) :
    PS X st (fun D σ H => (σ[0]? = some (some (.ref a)) ∧ SqL X.K H a (ns.map V.int)) ∧ tS k W (cfOf P n) (.asg 1 (HComp ns)) D σ H) := by
  unfold chkH1 at h
  split at h
  · rename_i y py elt tg x p1 j i p2 p3 p4 scope ps pos
    simp only [Bool.and_eq_true, decide_eq_true_eq] at h
    obtain ⟨⟨⟨⟨⟨⟨⟨⟨⟨⟨h1, h2⟩, h3⟩, h4⟩, h5⟩, rfl⟩, h7⟩, h8⟩, h9⟩, h10⟩, h11⟩ := h
    have hs := swC_ok g hk h7 pos.line
    refine PSw (ps_setLc (g.calm hh) (by rw [g.hN]; exact g.nd) (by rw [g.hN]; exact of_decide_eq_true h1) (by rw [g.sc]; exact h2) hs (pi_script g (a := a) (ns := ns) h3 h4 h5 hl) (by rw [g.hN, g.sc]; exact blkOk_by h8)
      (fun s H C cl fp => sG (.one 2) _ _ _ _ _ (g.blk hh s H scope C cl fp) h9) (fun s H C cl fp => sTo none _ _ _ _ _ (g.blk hh s H scope C cl fp) rfl) (fun s H C cl fp => (sE HEl _ _ _ _ _ (g.blk hh s H scope C cl fp) h10).1)) fun D σ H ⟨e, B, F, ρ, s, ok, q⟩ => ?_
    have q : PostS k W B D (bnd (evE (cfOf P n) (HComp ns) ρ s) fun d s => Ev.ok (Fl.nx (ρ.set 1 (.v d))) s) := by simpa only [evS] using q
    have z := comp_read (k := k) (W := W) (Y := cfOf P n) (own := (ownP c [2]).map (·.2)) (tg := .one 2) (it := .seq (LIT ns)) (t := none) (e := HEl) (by rw [ownP_snd]; intro i hi; exact hi) σ H (fun v H1 => D.nx (σ.set 1 (some v)) H1)
    rw [ownP_snd] at z ⊢
    refine ⟨e, z ⟨B, F, ρ, s, ok, (PostS.bnd ok q).mono fun d s1 F1 H1 E1 q v r => ?_⟩⟩
    obtain ⟨F2, E2, r2⟩ := RepF.sealed ok.ext.hand E1 r
    exact q F2 H1 _ ((ok.next E2).putv 1 r2)
  · cases h
/-- what _law_hand promises -/
def SpHand (k : Kx) (A B : Int) : Sp := fun vs H Q E => ∃ (a : Addr) (ns : List Int) (F : Hp), vs = [.ref a] ∧ SqL k.K H a (ns.map V.int) ∧ ns.length ≤ 63 ∧ Same F H ∧ HandOk k F H none ∧
  ∀ F' H' hx hc, Ext k F H none F' H' none → nt H hx = none → F' hx = none → H' hx = some (.lst [.ref hc, .int 0, .int 0, .int (A + B * ns.length), .int 0]) → F' hc = some (.lst ((ns.map aI).map V.int)) → Q (.ref hx) H'
theorem abs_turn (Y : Cf) (i : Int) (a b c : Sl) : compF Y [2] (.one 2) none HEl [a, b, c] (.int i) none = Ev.ok (some (.int (aI i))) none := by
  simp only [HEl, EVf, EVa, EVb, EVc, EVd, EVn, aI]
theorem abs_go (Y : Cf) (a b c : Sl) : ∀ ns : List Int, mapGo (compF Y [2] (.one 2) none HEl [a, b, c]) (ns.map D.int) none = Ev.ok ((ns.map aI).map D.int) none
  | [] => rfl
  | n :: ns => by
    show bnd (compF Y [2] (.one 2) none HEl [a, b, c] (.int n) none) (fun y s => bnd (mapGo (compF Y [2] (.one 2) none HEl [a, b, c]) (ns.map D.int) s) fun ys s => Ev.ok (consO y ys) s) = _
    rw [abs_turn Y n a b c]
    show bnd (mapGo (compF Y [2] (.one 2) none HEl [a, b, c]) (ns.map D.int) none) (fun ys s => Ev.ok (consO (some (.int (aI n))) ys) s) = _
    rw [abs_go Y a b c ns]
    rfl
theorem seq_LIT {Y : Cf} {ρ : Env} {ns : List Int} (h : ns.length ≤ 63) : evI Y true (.seq (LIT ns)) ρ none = Ev.ok (ns.map D.int) none := by
  have e := ev_LIT (Y := Y) (ρ := ρ) (s := none) h
  unfold LIT at e ⊢
  show bnd (evE Y (.lst (ns.map C.int)) ρ none) itemsK = _
  rw [e]
  rfl
theorem ev_HComp (Y : Cf) (a b c : Sl) {ns : List Int} (hl : ns.length ≤ 63) : evE Y (HComp ns) [a, b, c] none = Ev.ok (.lst ((ns.map aI).map D.int)) none := by
  show bnd (evI Y true (.seq (LIT ns)) [a, b, c] none) (compK Y [2] (.one 2) none HEl [a, b, c]) = _
  rw [seq_LIT hl]
  show compK Y [2] (.one 2) none HEl [a, b, c] (ns.map D.int) none = _
  rw [k_comp, if_pos (by rw [List.length_map]; exact Nat.le_trans hl (by decide)), abs_go]
  rfl
theorem ev_HRet (Y : Cf) (A B : Int) (hB : B.natAbs < 2 ^ 20) (cs : List Int) (hl : cs.length ≤ 63) : evE Y (HRet A B) [.no, .v (.lst (cs.map D.int)), .no] none = Ev.ok (.lst [.lst (cs.map D.int), .int 0, .int 0, .int (A + B * cs.length), .int 0]) none := by
  have m : binD .mul (.int B) (.int (cs.length : Nat)) = some (.int (B * cs.length)) := mulW (by omega) (by omega)
  simp only [HRet, EVf, EVa, EVb, EVc, EVd, EVn, List.length_map, m]
end
section
variable {k : Kx} {prog : Program} {w : World} {K : PySem.W.Frag} {mg : Str → Option Value} {base : Heap}
def chkHand (A B : Int) (sc : Scope) (N : List Str) (body : List Stmt) : Bool := match body with
  | [s1, .Return (some e) _] => chkH1 P0 ⟨N, sc, fun _ => true, false, false, [], ""⟩ s1 && chkE P0 ⟨N, sc, fun _ => true, false, false, [], ""⟩ (HRet A B) e
  | _ => false
theorem hand_ok (hK : K = k.K) (hw : w = k.w) (blt : ∀ x ∈ BLT, mg x = none) {A B : Int} (hB : B.natAbs < 2 ^ 20) {x qual : Str} {params : Arguments} {body : List Stmt} {scope : Scope} {f : Addr} {fd : FuncData} {N : List Str} (FD : FunD K x qual params body scope [] [] f fd) (S : FnScope N ["script"] scope) (hN : N.length = 3) (hc : chkHand A B scope N body = true) :
    FnOk prog w K mg base (L2.CX prog w) 1 f fd ["script"] (SpHand k A B) := by
  obtain ⟨oc, od, dV, kV, doc, pm, an, cdv, ct, osl, rfl, lk, hcd, _, _⟩ := FD.ex
  refine fn_of lk hcd S (fun vs H Q E ⟨a, ns, F, e, _⟩ => by rw [e]; rfl) fun A' outer s H vs Q E hr ⟨a, ns, F, e, hs, hl, fh, hd, q⟩ => ?_
  subst e
  unfold chkHand at hc
  split at hc
  · rename_i s1 e p
    rw [Bool.and_eq_true] at hc
    have g := (bd0 (k := k) (prog := prog) (base := base) hK hw blt).good (outer := outer) (s := s) (H := H) (E := E) (n := 0) (Nat.le_refl 0) (fun m hm => calls_all (bd0 hK hw blt) (fun f a h => by cases h) m) false S (fun z => by cases z) hr
    refine ⟨_, pss_cons (hand1 g rfl S.kind hc.1 (a := a) (ns := ns) hl) (pss_one (ps_ret ((sE (HRet A B) _ _ _ _ _ g hc.2).2 rfl))), ?_⟩
    have st : EnvOk (K0 k) ⟨F, H, none, F⟩ F H (L2.start N [.ref a]) [.no, .no, .no] none := by
      refine ⟨Ext.refl fh hd, Same.refl _, ?_, fun _ => 0, fun i => ?_, fun i j _ o _ => ?_, fun i o => ?_⟩
      · unfold L2.start; simp; omega
      · match i with
        | 0 => trivial
        | 1 => trivial
        | 2 => trivial
        | i + 3 => trivial
      all_goals
        exfalso
        match i, o with
        | 0, o => cases o
        | 1, o => cases o
        | 2, o => cases o
        | i + 3, o => cases o
    refine ⟨⟨by unfold L2.start; rfl, by rw [hK]; exact hs⟩, ⟨F, H, none, F⟩, F, [.no, .no, .no], none, st, ?_⟩
    have e1 : evS (cfOf P0 0) (.asg 1 (HComp ns)) [.no, .no, .no] none = Ev.ok (.nx [.no, .v (.lst ((ns.map aI).map D.int)), .no]) none := by
      show bnd (evE (cfOf P0 0) (HComp ns) [.no, .no, .no] none) (fun d s => Ev.ok (Fl.nx (List.set [.no, .no, .no] 1 (.v d))) s) = _
      rw [ev_HComp _ _ _ _ hl]
      rfl
    rw [e1]
    intro F1 H1 σ1 ok
    refine ⟨_, F1, _, none, ok, ?_⟩
    rw [ev_HRet _ A B hB _ (by rw [List.length_map]; exact hl)]
    intro F2 H2 E2 v r
    obtain ⟨p, o, rfl, n1, f2, h2, xs, rfl, rs⟩ := r
    have len : (ns.map aI).length = ns.length := List.length_map _
    rw [len] at rs
    cases rs with
    | cons r0 rs =>
      cases rs with
      | cons r1 rs =>
        cases rs with
        | cons r2 rs =>
          cases rs with
          | cons r3 rs =>
            cases rs with
            | cons r4 rs =>
              cases rs
              cases r1
              cases r2
              cases r3
              cases r4
              cases r0 with
              | lst h0 r0 =>
                have e5 := reps_ints (ns := ns.map aI) r0 (intsI _)
                subst e5
                have E := ok.ext.trans E2
                refine q F2 H2 p _ ⟨E.ff, E.fh, E.hx, E.nn, E.nf, E.st, E.hand⟩ (ok.ext.hnone n1) f2 h2 h0
  · cases hc
end
end Ev
set_option maxHeartbeats 4000000
/-! EvLaw: the law's own def. -/
namespace Ev
open PySem PySem.Spec PyProof.Rows L2
def Kx.at (k : Kx) (a : Addr) : Kx := { k with ha := a }
/-- hand = _law_hand(script) -/
def chkL1 (c : Ck) (st : Stmt) : Bool := match st with
  | .Assign [.Name y _] (.Call (.Name f _) [.Name x _] [] _) _ => nmB c 1 y && locB c y && decide (f = "_law_hand") && glB c f && decide (c.N[0]? = some x) && visB c x && okN x
  | _ => false
/-- what the law promises -/
def SpLaw (k : Kx) : Sp := fun vs H Q E => ∃ (a : Addr) (ns : List Int), vs = [.ref a] ∧ SqL k.K H a (ns.map V.int) ∧ ns.length ≤ 63 ∧ LamX.Tabs k.tb H ∧ ∀ H', Q (.bl true) H'
section
variable {k : Kx} {P : Pg} {prog : Program} {w : World} {K : PySem.W.Frag} {mg : Str → Option Value} {base : Heap}
theorem law_start {F H : Hp} {h : Hand} {hx hc : Addr} {σ : L2.St} {ρ : Env} (fh : Same F H) (tb : TabOk k F H) (f1 : F hx = none) (h1 : H hx = some (.lst [.ref hc, .int h.i, .int h.a, .int h.b, .int h.c])) (c1 : F hc = some (.lst (h.cells.map V.int))) (hl : σ.length = ρ.length)
    (hs : ∀ i, ρ.at i = .no ∨ (ρ.at i = .v .hand ∧ σ[i]? = some (some (.ref hx)))) : EnvOk (k.at hx) ⟨F, H, some h, F⟩ F H σ ρ (some h) := by
  refine ⟨Ext.refl fh ⟨tb, fun x e => ?_⟩, Same.refl _, hl, fun _ => 0, fun i => ?_, fun i j _ o _ => ?_, fun i o => ?_⟩
  · cases e
    exact ⟨f1, hc, h1, c1⟩
  · rcases hs i with e | ⟨e, e2⟩
    · rw [e]; trivial
    · rw [e, e2]
      exact (Rep.hand : Rep (k.at hx) _ (.ref (k.at hx).ha) .hand)
  all_goals
    exfalso
    rcases hs i with e | ⟨e, _⟩ <;> rw [e] at o <;> cases o
theorem law_ok {A B : Int} (hA : 0 ≤ A ∧ A ≤ 1000000) (hB : 0 ≤ B ∧ B ≤ 1000000) (b : ∀ a, Bd (k.at a) P prog w K mg base) {n : Nat} (hn : P.nwL ≤ n) (n1 : 1 ≤ n) (cs : ∀ a m, m ≤ n → Calls (k.at a) P prog w K mg base m) {fh : Addr} {fdh : FuncData} (FH : FnOk prog w K mg base (L2.CX prog w) 1 fh fdh ["script"] (SpHand k A B)) (mH : mg "_law_hand" = some (.ref fh)) (kH : PySem.W.keepIn K (.ref fh) = true) (bH : L2.Binds K fdh ["script"] [])
    {x qual : Str} {params : Arguments} {s1 : Stmt} {rest : List Stmt} {scope : Scope} {f : Addr} {fd : FuncData} {N : List Str} {core : List S} {ρ0 : Env} (FD : FunD K x qual params (s1 :: rest) scope [] [] f fd) (S : FnScope N ["script"] scope) (hc1 : chkL1 ⟨N, scope, fun _ => true, false, false, [], ""⟩ s1 = true) (hc : chkSs P ⟨N, scope, fun _ => true, false, false, [], ""⟩ core rest = true)
    (hl : N.length = ρ0.length) (h1 : 1 < N.length) (hs : ∀ i, ρ0.at i = .no ∨ (i = 1 ∧ ρ0.at i = .v .hand)) (tail : ∀ h : Hand, HandG h 0 → ∃ ρ h', evSs (cfOf P n) core ρ0 (some h) = Ev.ok (.ret ρ (.bl true)) (some h')) :
    FnOk prog w K mg base (L2.CX prog w) (n + 1) f fd ["script"] (SpLaw k) := by
  obtain ⟨oc, od, dV, kV, doc, pm, an, cdv, ct, osl, rfl, lk, hcd, _, _⟩ := FD.ex
  refine fn_of lk hcd S (fun vs H Q E ⟨a, ns, e, _⟩ => by rw [e]; rfl) fun A' outer s H vs Q E hr ⟨a, ns, e, hsq, hlen, ht, q⟩ => ?_
  subst e
  have g : ∀ hx, Good (k.at hx) P n ⟨N, scope, fun _ => true, false, false, [], ""⟩ E (cxOf (L2.CX prog w) prog w K mg base N qual scope f cdv A' outer s H E) := fun hx => (b hx).good (outer := outer) (s := s) (H := H) (E := E) hn (fun m hm => cs hx m hm) false S (fun z => by cases z) hr
  unfold chkL1 at hc1
  split at hc1
  · rename_i y p1 fn p2 x0 p3 p4 p5
    simp only [Bool.and_eq_true, decide_eq_true_eq] at hc1
    obtain ⟨⟨⟨⟨⟨⟨c1, c2⟩, rfl⟩, c4⟩, c5⟩, c6⟩, c7⟩ := hc1
    have g0 := g 0
    have pc := pe_callS (p := p2) (pos := p4) (FH.mono n1) (g0.room rfl) (g0.glob c4) mH kH bH (fun σ => passAt g0.tk σ) (pa_cons (pe_var (i := 0) (pos := p3) (by rw [g0.hN]; exact c5) (g0.vis c6) (okN_d c7).1 (okN_d c7).2.1) pa_nil) (by decide) (by rfl) (by rfl)
    refine ⟨_, pss_cons (ps_set (pos' := p1) (pos := p5) (by rw [g0.hN]; exact g0.nd) (by rw [g0.hN]; exact of_decide_eq_true c1) (g0.loc c2).1 pc (by rfl) (g0.loc c2).2)
      (show PSs _ rest (fun D σ H => ∃ hx, tSs (k.at hx) E (cfOf P n) core D σ H) from ⟨fun pins s σ H D I ⟨hx, q⟩ => (sSs core E _ rest (g hx) S.kind hc).run pins s σ H D I q⟩), ?_⟩
    refine ⟨.ref a, by unfold L2.start; rfl, a, ns, fun _ => none, rfl, hsq, hlen, (fun _ _ z => by cases z), ⟨⟨fun r hr => ⟨rfl, ht r hr⟩, (fun _ _ z => by cases z)⟩, (fun _ z => by cases z)⟩, fun F' H' hx hc E1 m1 f1 h1' c1' => ?_⟩
    have hb : 0 ≤ B * (ns.length : Int) ∧ B * (ns.length : Int) ≤ 1000000 * 63 := ⟨Int.mul_nonneg hB.1 (by omega), Int.le_trans (Int.mul_le_mul_of_nonneg_right hB.2 (by omega)) (by omega)⟩
    obtain ⟨ρ, h', ev⟩ := tail ⟨ns.map aI, 0, 0, A + B * ns.length, 0⟩ ⟨fun x hx => by obtain ⟨i, _, rfl⟩ := List.mem_map.mp hx; exact Int.natCast_nonneg _, by rw [List.length_map]; omega, Int.le_refl 0, Int.le_refl 0, ⟨by show 0 ≤ A + B * (ns.length : Int); omega, by show A + B * (ns.length : Int) < _; omega⟩, ⟨Int.le_refl 0, Int.le_refl 0⟩⟩
    refine ⟨hx, ⟨F', H', some ⟨ns.map aI, 0, 0, A + B * ns.length, 0⟩, F'⟩, F', ρ0, some ⟨ns.map aI, 0, 0, A + B * ns.length, 0⟩, law_start E1.fh E1.hand.1 f1 h1' c1' ?_ fun i => ?_, ?_⟩
    · rw [List.length_set]
      unfold L2.start
      simp
      omega
    · rcases hs i with e | ⟨rfl, e⟩
      · exact .inl e
      · refine .inr ⟨e, ?_⟩
        rw [List.getElem?_set_self]
        unfold L2.start
        simp
        omega
    · rw [ev]
      intro F2 H2 σ2 v ok r
      cases r
      exact q H2
  · cases hc1
end
end Ev
set_option maxHeartbeats 4000000
/-! EvHead: the facts of a head, as the evaluator asks them. -/
namespace Ev
open PySem PySem.Spec PyProof.Rows L2
open PySem.W (Frag)
def objB (K : Frag) (x : Str) : Bool := He.eqO (PySem.W.findIn K (.ref (He.ga K x)) "__class__") (some (some (.builtin "object.__class__"))) && (He.eqO (PySem.W.specialIn K (.builtin "object.__class__") "__get__") (some (some (.builtin "getset_descriptor.__get__"))) && (decide (PySem.W.takesIn K (.builtin "object.__class__") = some true) && decide (PySem.W.mroIn K (He.ga K x) (.type "object") = some true)))
def kitCB (K : Frag) (cls : List Str) : Bool := cls.all fun x => clsNames.all (fun q => decide (PySem.W.kitOne K (.ref (He.ga K x)) (.type q.2) = some (isiT x q.1))) && (tagNames.all (fun q => decide (PySem.W.kitOne K (.type q.2) (.ref (He.ga K x)) = some (isiT q.1 x))) && cls.all fun y => decide (PySem.W.kitOne K (.ref (He.ga K x)) (.ref (He.ga K y)) = some (isiT x y)))
def excB (K : Frag) (x : Str) : Bool := He.eqO (PySem.W.findIn K (.ref (He.ga K x)) "__getattribute__") (some (some (.builtin "BaseException.__getattribute__"))) && (He.eqO (PySem.W.findIn K (.ref (He.ga K x)) "__getattr__") (some none) && (decide (PySem.W.subIn K (.ref (He.ga K x)) (.type "BaseException") = some true) && (PySem.W.hasDictIn K (He.ga K x) && objB K x)))
/-- an error's class: rt the root, exo own classes, exb types of the language -/
def errB (K : Frag) (rt : Str) (exo : List (Str × Bool)) (exb : List (Str × String × Bool)) (x : Str) : Bool := excB K x && (decide (PySem.W.exmOne K (.ref (He.ga K x)) (.ref (He.ga K rt)) = some true) && (exo.all (fun q => decide (PySem.W.kitOne K (.ref (He.ga K x)) (.ref (He.ga K q.1)) = some q.2)) && exb.all fun q => decide (PySem.W.kitOne K (.ref (He.ga K x)) (.type q.2.1) = some q.2.2)))
def exsOf (exo : List (Str × Bool)) (exb : List (Str × String × Bool)) : List (Str × Bool) := exo ++ exb.map fun q => (q.1, q.2.2)
section
variable {K : Frag} {k : Kx} {mg : Str → Option Value}
theorem objT_of {x : Str} (h : objB K x = true) : PySem.W.findIn K (.ref (He.ga K x)) "__class__" = some (some (.builtin "object.__class__")) ∧ PySem.W.specialIn K (.builtin "object.__class__") "__get__" = some (some (.builtin "getset_descriptor.__get__")) ∧ PySem.W.takesIn K (.builtin "object.__class__") = some true ∧ PySem.W.mroIn K (He.ga K x) (.type "object") = some true := by
  obtain ⟨h1, h⟩ := He.ba h
  obtain ⟨h2, h⟩ := He.ba h
  obtain ⟨h3, h4⟩ := He.ba h
  exact ⟨He.eqO_ok h1, He.eqO_ok h2, of_decide_eq_true h3, of_decide_eq_true h4⟩
theorem isi_of {cls : List Str} (hc : ∀ x C, k.cls x = some C → x ∈ cls ∧ C = He.ga K x) (h : kitCB K cls = true) : ∀ t u tv uv, tagVal k t = some tv → clsVal k u = some uv → PySem.W.kitOne K tv uv = some (isiT t u) := by
  intro t u tv uv h1 h2
  have key := List.all_eq_true.mp h
  unfold tagVal at h1
  unfold clsVal at h2
  cases e1 : tagNames.lookup t with
  | some a =>
    rw [e1] at h1
    cases h1
    cases e2 : clsNames.lookup u with
    | some b =>
      rw [e2] at h2
      cases h2
      exact kit_ty (kit_all _ (PySem.mem_of_lookup e1) _ (PySem.mem_of_lookup e2))
    | none =>
      rw [e2] at h2
      obtain ⟨C, h3, rfl⟩ := Option.map_eq_some_iff.mp h2
      obtain ⟨m, rfl⟩ := hc _ _ h3
      exact of_decide_eq_true (List.all_eq_true.mp (He.ba (He.ba (key u m)).2).1 _ (PySem.mem_of_lookup e1))
  | none =>
    rw [e1] at h1
    obtain ⟨C, h3, rfl⟩ := Option.map_eq_some_iff.mp h1
    obtain ⟨m, rfl⟩ := hc _ _ h3
    cases e2 : clsNames.lookup u with
    | some b =>
      rw [e2] at h2
      cases h2
      exact of_decide_eq_true (List.all_eq_true.mp (He.ba (key t m)).1 _ (PySem.mem_of_lookup e2))
    | none =>
      rw [e2] at h2
      obtain ⟨C2, h4, rfl⟩ := Option.map_eq_some_iff.mp h2
      obtain ⟨m2, rfl⟩ := hc _ _ h4
      exact of_decide_eq_true (List.all_eq_true.mp (He.ba (He.ba (key t m)).2).2 u m2)
theorem errC_of {rt x : Str} {exo : List (Str × Bool)} {exb : List (Str × String × Bool)} (h : errB K rt exo exb x = true) (ho : ∀ q ∈ exo, mg q.1 = some (.ref (He.ga K q.1))) (hb : ∀ q ∈ exb, mg q.1 = none ∧ bootBuiltins q.1 = some (.type q.2.1)) : ErrC K mg (He.ga K rt) (He.ga K x) (exsOf exo exb) := by
  obtain ⟨h1, h⟩ := He.ba h
  obtain ⟨h2, h⟩ := He.ba h
  obtain ⟨h3, h4⟩ := He.ba h
  obtain ⟨e1, e⟩ := He.ba h1
  obtain ⟨e2, e⟩ := He.ba e
  obtain ⟨e3, e⟩ := He.ba e
  obtain ⟨e4, e5⟩ := He.ba e
  obtain ⟨o1, o2, o3, o4⟩ := objT_of e5
  refine ⟨⟨He.eqO_ok e1, He.eqO_ok e2, of_decide_eq_true e3, e4, o1, o2, o3, o4⟩, of_decide_eq_true h2, fun u b hl => ?_⟩
  rcases List.mem_append.mp (PySem.mem_of_lookup hl) with m | m
  · exact .inl ⟨_, ho _ m, of_decide_eq_true (List.all_eq_true.mp h3 _ m)⟩
  · obtain ⟨q, hq, e⟩ := List.mem_map.mp m
    cases e
    exact .inr ⟨_, (hb q hq).1, (hb q hq).2, of_decide_eq_true (List.all_eq_true.mp h4 _ hq)⟩
end
/-- the written part's own naming -/
def lamQ (x : Str) : Str := x ++ ".<locals>." ++ "<lambda>"
def mkK (K : Frag) (w : World) (cls ecl fns : List Str) (fl : Flds) (tf : List He.Defn) : Kx where
  K := K
  w := w
  cls := fun x => if cls.contains x = true then some (He.ga K x) else none
  ecl := fun x => if ecl.contains x = true then some (He.ga K x) else none
  fns := fun x => if fns.contains x = true then some (He.ga K x) else none
  fl := fl
  ha := 0
  tb := tf.map fun p => ((He.cT K p).2, lamQ p.1)
theorem mk_at {xs : List Str} {K : Frag} {x : Str} {C : Addr} (h : (if xs.contains x = true then some (He.ga K x) else none) = some C) : x ∈ xs ∧ C = He.ga K x := by
  split at h
  · rename_i q
    cases h
    exact ⟨by simpa using q, rfl⟩
  · cases h
theorem mk_has {xs : List Str} {K : Frag} {x : Str} (h : xs.contains x = true) : ∃ a, (if xs.contains x = true then some (He.ga K x) else none) = some a := ⟨_, if_pos h⟩
/-! ### the word's def, checked -/
def chkWord (wl : Str) (f : List Stmt → Bool) (body : List Stmt) : Bool := match body with
  | [.Try [.Expr (.Call (.Name c _) [] [] _) _] [.ExceptHandler (some (.Name r _)) (some e) (b0 :: suite) _] [] [] _, .Return (some (.Constant (.str l) _ _)) _] => decide (c = "call") && decide (r = "RingError") && decide (e = "error") && decide (l = wl) && f (b0 :: suite)
  | _ => false
section
variable {k : Kx} {X : Cx}
theorem word_gives2 {P : Pg} {Ng : List Str} {sg : Scope} {g CR : Addr} {cdv : Value} {q wl : Str} {core : Str → List S} {exs : Str → List (Str × Bool)} {body : List Stmt} {xs : List Str} (hK : X.K = k.K) (hw : X.w = k.w) (blt : ∀ x ∈ BLT, X.mg x = none) (hr : Room 0 X.A)
    (S : FnScope Ng ["call"] sg) (hN0 : Ng[0]? = some ("call" : Str)) (hN1 : Ng[1]? = some ("error" : Str)) (h3 : Ng.length = 3) (hln : sg.names.lookup ("error" : Str) = some .local) (hge : sg.names.lookup ("RingError" : Str) = some .globalImplicit) (hme : X.mg "RingError" = some (.ref CR))
    (hc : chkWord wl (fun su => xs.all fun x => chkSs P0 ⟨Ng, sg, fun _ => true, false, true, exs x, ""⟩ (core x) su) body = true)
    (hcls : ∀ x C wd, k.ecl x = some C → P.wrd (some x) = some wd → x ∈ xs ∧ ErrC X.K X.mg CR C (exs x) ∧ ∃ ρ, evSs (cfOf P0 0) (core x) rhoW none = Ev.ok (.ret ρ (.str wd)) none)
    (hwl : P.wrd none = some wl) : LamX.GivesTo X Ng "_law_word" sg g cdv body "call" q (TTw k P) := by
  unfold chkWord at hc
  split at hc
  · simp only [Bool.and_eq_true, decide_eq_true_eq] at hc
    obtain ⟨⟨⟨⟨rfl, rfl⟩, rfl⟩, rfl⟩, hf⟩ := hc
    exact word_gives hK hw blt hr S hN0 hN1 h3 hln hge hme (fun x C wd h1 h2 => by
      obtain ⟨m, e1, e2⟩ := hcls x C wd h1 h2
      exact ⟨e1, List.all_eq_true.mp hf x m, e2⟩) hwl
  · cases hc
/-- a def that holds lambdas, here -/
theorem wd_of {P : Pg} {Ng : List Str} {sg : Scope} {g : Addr} {pg : Arguments} {bg : List Stmt} {fdw : FuncData} {qual : Str} {c Pt : Addr} (FW : FunD X.K "_law_word" "_law_word" pg bg sg [] [] g fdw) (mw : X.mg "_law_word" = some (.ref g)) (bw : L2.Binds X.K fdw ["call"] []) (S : FnScope Ng ["call"] sg) (hN0 : Ng[0]? = some ("call" : Str)) (hv : Vis sg "call")
    (G : ∀ cdv, LamX.GivesTo X Ng "_law_word" sg g cdv bg "call" (X.env.qual ++ "<lambda>") (TTw k P)) (T : LamX.TabB X.base X.mg c Pt) (hcode : X.env.code = .ref c) (hq : X.env.qual = qual ++ ".<locals>.") (hm : (Pt, lamQ qual) ∈ k.tb) (hu : ∀ p ∈ k.tb, p.1 = Pt → p.2 = lamQ qual) : WdOk k P X := by
  obtain ⟨oc, od, dV, kV, doc, pm, an, cdv, ct, osl, rfl, lk, hcd, _, _⟩ := FW.ex
  refine ⟨g, c, Pt, pg, bg, sg, dV, kV, doc, pm, cdv, ct, oc, an, od, osl, Ng, "call", mw, FW.kp, lk, hcd, bw, S, hN0, hv, G cdv, T, hcode, ?_, ?_, by decide, by decide⟩
  · rw [hq]; exact hm
  · rw [hq]; exact hu
end
end Ev
set_option maxHeartbeats 1000000
/-! PlOrd: fractions in order; kinds of things. -/
namespace Ev
open PySem
def insU (q : Rat) : List Rat → List Rat
  | [] => [q]
  | a :: r => if a < q then a :: insU q r else if a = q then a :: r else q :: a :: r
def sortU (l : List Rat) : List Rat := l.foldl (fun f q => insU q f) []
theorem mem_insU {q x : Rat} : ∀ {l : List Rat}, x ∈ insU q l ↔ x = q ∨ x ∈ l
  | [] => by simp [insU]
  | a :: r => by
    unfold insU
    split
    · rw [List.mem_cons, mem_insU, List.mem_cons]
      grind
    · split
      · rename_i h; subst h; simp
      · simp
theorem insU_sorted {q : Rat} : ∀ {l : List Rat}, l.Pairwise (· < ·) → (insU q l).Pairwise (· < ·)
  | [], _ => by simp [insU]
  | a :: r, h => by
    rw [List.pairwise_cons] at h
    unfold insU
    split
    · rename_i h1
      rw [List.pairwise_cons]
      refine ⟨fun b hb => ?_, insU_sorted h.2⟩
      rcases mem_insU.mp hb with rfl | hb
      · exact h1
      · exact h.1 b hb
    · split
      · rename_i h1; subst h1; exact List.pairwise_cons.mpr h
      · rename_i h1 h2
        rw [List.pairwise_cons, List.pairwise_cons]
        refine ⟨fun b hb => ?_, h⟩
        rcases List.mem_cons.mp hb with rfl | hb
        · grind
        · have := h.1 b hb
          grind
theorem fold_sorted : ∀ (l f : List Rat), f.Pairwise (· < ·) → (l.foldl (fun f q => insU q f) f).Pairwise (· < ·)
  | [], f, h => h
  | a :: l, f, h => fold_sorted l _ (insU_sorted h)
theorem mem_fold {x : Rat} : ∀ (l f : List Rat), x ∈ l.foldl (fun f q => insU q f) f ↔ x ∈ f ∨ x ∈ l
  | [], f => by simp
  | a :: l, f => by
    rw [List.foldl_cons, mem_fold l, mem_insU]
    simp
    grind
theorem sortU_sorted (l : List Rat) : (sortU l).Pairwise (· < ·) := fold_sorted l [] List.Pairwise.nil
theorem mem_sortU {x : Rat} {l : List Rat} : x ∈ sortU l ↔ x ∈ l := by
  unfold sortU
  rw [mem_fold]
  simp
def tw (q : Rat) (l : List Rat) : Nat := (l.takeWhile (fun a => decide (a < q))).length
theorem insU_eq (q : Rat) : ∀ (l : List Rat), insU q l = if tw q l = l.length ∨ l[tw q l]? ≠ some q then l.take (tw q l) ++ [q] ++ l.drop (tw q l) else l
  | [] => by simp [insU, tw]
  | a :: r => by
    unfold insU
    by_cases h : a < q
    · have e : tw q (a :: r) = tw q r + 1 := by simp [tw, List.takeWhile_cons, h]
      rw [if_pos h, e, insU_eq q r]
      by_cases c : tw q r = r.length ∨ r[tw q r]? ≠ some q
      · rw [if_pos c, if_pos (by rcases c with c | c; exact .inl (by simp [c]); exact .inr (by simpa using c))]
        simp
      · rw [if_neg c, if_neg (by intro z; exact c (by rcases z with z | z; exact .inl (by simpa using z); exact .inr (by simpa using z)))]
    · have e : tw q (a :: r) = 0 := by simp [tw, List.takeWhile_cons, h]
      rw [if_neg h, e]
      by_cases c : a = q
      · simp [c]
      · simp [c]
theorem tw_le (q : Rat) (l : List Rat) : tw q l ≤ l.length := (List.takeWhile_sublist _).length_le
theorem tw_lt {q : Rat} : ∀ {l : List Rat} {i : Nat}, i < tw q l → ∃ a, l[i]? = some a ∧ a < q
  | [], i, h => by simp [tw] at h
  | a :: r, i, h => by
    by_cases c : a < q
    · match i with
      | 0 => exact ⟨a, rfl, c⟩
      | i + 1 =>
        have e : tw q (a :: r) = tw q r + 1 := by simp [tw, List.takeWhile_cons, c]
        obtain ⟨b, h1, h2⟩ := tw_lt (q := q) (l := r) (i := i) (by omega)
        exact ⟨b, by simpa using h1, h2⟩
    · simp [tw, List.takeWhile_cons, c] at h
theorem tw_at {q : Rat} : ∀ {l : List Rat} {a : Rat}, l[tw q l]? = some a → ¬ a < q
  | [], a, h => by simp at h
  | b :: r, a, h => by
    by_cases c : b < q
    · have e : tw q (b :: r) = tw q r + 1 := by simp [tw, List.takeWhile_cons, c]
      rw [e] at h
      exact tw_at (l := r) (by simpa using h)
    · have e : tw q (b :: r) = 0 := by simp [tw, List.takeWhile_cons, c]
      rw [e] at h
      simp at h
      subst h
      exact c
/-- in order: the lesser ones stand ahead -/
theorem tw_filter {q : Rat} : ∀ {l : List Rat}, l.Pairwise (· < ·) → (l.filter (fun a => decide (a < q))).length = tw q l
  | [], _ => rfl
  | a :: r, h => by
    rw [List.pairwise_cons] at h
    by_cases c : a < q
    · have e : tw q (a :: r) = tw q r + 1 := by simp [tw, List.takeWhile_cons, c]
      rw [e, List.filter_cons]
      simp [c, tw_filter h.2]
    · have e : tw q (a :: r) = 0 := by simp [tw, List.takeWhile_cons, c]
      rw [e, List.filter_cons]
      have : r.filter (fun a => decide (a < q)) = [] := by
        rw [List.filter_eq_nil_iff]
        intro b hb
        have := h.1 b hb
        simp
        grind
      simp [c, this]
theorem insU_len {q : Rat} : ∀ (l : List Rat), (insU q l).length ≤ l.length + 1
  | [] => by simp [insU]
  | a :: r => by
    unfold insU
    have := insU_len (q := q) r
    split
    · simp; omega
    · split <;> simp
/-! ### slices, sums of lists -/
theorem slice_to (xs : List D) (i : Nat) : sliceD (.lst xs) none (some (i : Int)) = some (.lst (xs.take i)) := by
  show some (D.lst (cutD xs none (some (i : Int)))) = _
  congr 2
  unfold cutD
  simp only [sIxD]
  rw [if_neg (by omega)]
  simp [List.take_eq_take_iff]
theorem slice_tot (xs : List D) (i : Nat) : sliceD (.tup xs) none (some (i : Int)) = some (.tup (xs.take i)) := by
  have := slice_to xs i
  show some (D.tup (cutD xs none (some (i : Int)))) = _
  have h : some (D.lst (cutD xs none (some (i : Int)))) = some (.lst (xs.take i)) := this
  injection h with h
  injection h with h
  rw [h]
theorem slice_from (xs : List D) (i : Nat) : sliceD (.lst xs) (some (i : Int)) none = some (.lst (xs.drop i)) := by
  show some (D.lst (cutD xs (some (i : Int)) none)) = _
  congr 2
  unfold cutD
  simp only [sIxD]
  rw [if_neg (by omega)]
  simp
  by_cases h : i ≤ xs.length
  · rw [Nat.min_eq_left h]
    rw [List.take_of_length_le (by simp)]
  · rw [Nat.min_eq_right (by omega), List.drop_eq_nil_of_le (by omega), List.drop_eq_nil_of_le (by omega)]
    simp
theorem add_l {xs ys : List D} (h : xs.length + ys.length ≤ 16000000) : binD .add (.lst xs) (.lst ys) = some (.lst (xs ++ ys)) := by
  show guardD (decide (xs.length + ys.length ≤ lim)) _ = _
  unfold guardD lim
  rw [if_pos (by simpa using h)]
theorem add_t {xs ys : List D} (h : xs.length + ys.length ≤ 16000000) : binD .add (.tup xs) (.tup ys) = some (.tup (xs ++ ys)) := by
  show guardD (decide (xs.length + ys.length ≤ lim)) _ = _
  unfold guardD lim
  rw [if_pos (by simpa using h)]
theorem gd_lim {n : Nat} {d : D} (h : n ≤ 16000000) : guardD (decide (n ≤ lim)) d = some d := by
  unfold guardD lim
  rw [if_pos (by simpa using h)]
theorem if_lim {α : Type} {n : Nat} {a b : α} (h : n ≤ 16000000) : (if n ≤ lim then a else b) = a := if_pos h
theorem it_l (xs : List D) : items (.lst xs) = some xs := rfl
theorem it_t (xs : List D) : items (.tup xs) = some xs := rfl
theorem gd0 (d : D) (h : 0 ≤ lim) : guardD (decide (([] : List D).length ≤ lim)) d = some d := rfl
def F_in_order : Fn := ⟨1, 4, [.asg 1 (.lst []), .for (.one 2) (.seq (.var 0)) [.asg 3 (.int 0), .loop (.all [(.e (.cmp .lt (.var 3) (.blt .len [(.var 1)]))), (.e (.call "is_less" [(.sub (.var 1) (.var 3)), (.var 2)]))]) [.aug 3 .add (.int 1)], .iff (.any [(.e (.cmp .eq (.var 3) (.blt .len [(.var 1)]))), (.e (.cmp .ne (.sub (.var 1) (.var 3)) (.var 2)))]) [.asg 1 (.bin .add (.bin .add (.slice (.var 1) none (some (.var 3))) (.lst [(.var 2)])) (.slice (.var 1) (some (.var 3)) none))] []], .ret (.var 1)]⟩
section
variable {P : Pg} [Low P] [Has P "is_less" F_is_less] (n : Nat) (s : St)
theorem sub_fr {l : List Rat} {i : Nat} {a : Rat} (h : l[i]? = some a) : subD (.lst (l.map fr)) (.int (i : Int)) = some (fr a) := by
  have hi : i < l.length := by
    by_cases z : i < l.length
    · exact z
    · rw [List.getElem?_eq_none (by omega)] at h; cases h
  rw [sub_ixl (by omega) (by simpa using hi)]
  simp [h]
theorem io_while (sm : D) (q : Rat) (hq : Sm q) (l : List Rat) (hl : ∀ a ∈ l, Sm a) : ∀ (k i : Nat), i + k = tw q l → loopGo (cfOf P (n + 6)) (.all [(.e (.cmp .lt (.var 3) (.blt .len [(.var 1)]))), (.e (.call "is_less" [(.sub (.var 1) (.var 3)), (.var 2)]))]) [.aug 3 .add (.int 1)] [.v sm, .v (.lst (l.map fr)), .v (fr q), .v (.int (i : Nat))] s = ok (.nx [.v sm, .v (.lst (l.map fr)), .v (fr q), .v (.int (tw q l : Nat))]) s
  | 0, i, h => by
    have hi : i = tw q l := by omega
    subst hi
    refine loop_f (s1 := s) ?_
    simp only [EVa, EVb, EVc, EVd, EVn, List.length_map]
    by_cases c : tw q l = l.length
    · rw [decide_eq_false (by omega)]
      simp only [EVa, EVb, EVc, EVd, EVn]
    · have c2 : tw q l < l.length := by have := tw_le q l; omega
      rw [decide_eq_true (by omega)]
      have g : l[tw q l]? = some l[tw q l] := List.getElem?_eq_getElem c2
      simp only [EVa, EVb, EVc, EVd, EVn, sub_fr g, is_less_ok n s _ q (hl _ (List.getElem_mem c2)) hq, decide_eq_false (tw_at g)]
  | k + 1, i, h => by
    obtain ⟨a, h1, h2⟩ := tw_lt (q := q) (l := l) (i := i) (by omega)
    have h3 : i < l.length := by have := tw_le q l; omega
    rw [loop_t (s1 := s) (s2 := s) (ρ' := [.v sm, .v (.lst (l.map fr)), .v (fr q), .v (.int ((i + 1 : Nat) : Int))])
      (by
        simp only [EVa, EVb, EVc, EVd, EVn, List.length_map, decide_eq_true (show (i : Int) < l.length by omega), sub_fr h1, is_less_ok n s _ q (hl _ (List.mem_of_getElem? h1)) hq, decide_eq_true h2])
      (by
        simp only [EVa, EVb, EVc, EVd, EVn]
        rfl)]
    exact io_while sm q hq l hl k (i + 1) (by omega)
theorem io_for (sm : D) : ∀ (r l : List Rat) (u v : Sl), (∀ a ∈ r, Sm a) → (∀ a ∈ l, Sm a) → r.length + l.length ≤ 1000000 → ∃ u' v', forGo (forK (cfOf P (n + 6)) (.one 2) [.asg 3 (.int 0), .loop (.all [(.e (.cmp .lt (.var 3) (.blt .len [(.var 1)]))), (.e (.call "is_less" [(.sub (.var 1) (.var 3)), (.var 2)]))]) [.aug 3 .add (.int 1)], .iff (.any [(.e (.cmp .eq (.var 3) (.blt .len [(.var 1)]))), (.e (.cmp .ne (.sub (.var 1) (.var 3)) (.var 2)))]) [.asg 1 (.bin .add (.bin .add (.slice (.var 1) none (some (.var 3))) (.lst [(.var 2)])) (.slice (.var 1) (some (.var 3)) none))] []]) (r.map fr) [.v sm, .v (.lst (l.map fr)), u, v] s = ok (.nx [.v sm, .v (.lst ((r.foldl (fun f q => insU q f) l).map fr)), u', v']) s
  | [], l, u, v, _, _, _ => ⟨u, v, rfl⟩
  | q :: r, l, u, v, hr, hl, hb => by
    have hq := hr q (by simp)
    have hb' : r.length + l.length < 1000000 := by simp at hb; omega
    obtain ⟨u', v', h⟩ := io_for sm r (insU q l) (.v (fr q)) (.v (.int (tw q l : Nat))) (fun a ha => hr a (by simp [ha])) (fun a ha => by rcases mem_insU.mp ha with rfl | ha; exact hq; exact hl a ha) (by have := insU_len (q := q) l; omega)
    refine ⟨u', v', ?_⟩
    rw [List.map_cons, List.foldl_cons, ← h]
    simp only [EVf, EVa, EVb, EVc, EVd, EVn]
    rw [show (0 : Int) = ((0 : Nat) : Int) from rfl, io_while n s sm q hq l hl (tw q l) 0 (by omega)]
    simp only [EVf, EVa, EVb, EVc, EVd, EVn, List.length_map]
    have hle := tw_le q l
    by_cases c : tw q l = l.length ∨ l[tw q l]? ≠ some q
    · have e : insU q l = l.take (tw q l) ++ [q] ++ l.drop (tw q l) := by rw [insU_eq, if_pos c]
      have fin : ∀ st : St, evSs (cfOf P (n + 6)) [.asg 1 (.bin .add (.bin .add (.slice (.var 1) none (some (.var 3))) (.lst [(.var 2)])) (.slice (.var 1) (some (.var 3)) none))] [.v sm, .v (.lst (l.map fr)), .v (fr q), .v (.int (tw q l : Nat))] st = ok (.nx [.v sm, .v (.lst ((insU q l).map fr)), .v (fr q), .v (.int (tw q l : Nat))]) st := fun st => by
        simp only [EVa, EVb, EVc, EVd, EVn, slice_to, slice_from]
        rw [add_l (by simp; omega)]
        simp only [EVa, EVb, EVc, EVd, EVn, slice_from]
        rw [add_l (by simp; omega), e]
        simp only [EVa, EVb, EVc, EVd, EVn, List.map_append, List.map_take, List.map_drop, List.map_cons, List.map_nil]
      by_cases c1 : tw q l = l.length
      · rw [decide_eq_true (by omega)]
        simp only [EVa, EVb, EVc, EVd, EVn, fin, EVf]
      · rw [decide_eq_false (by omega)]
        have c2 : tw q l < l.length := by omega
        have g : l[tw q l]? = some l[tw q l] := List.getElem?_eq_getElem c2
        have c3 : l[tw q l] ≠ q := by
          rcases c with c | c
          · exact absurd c c1
          · rw [g] at c; intro z; exact c (by rw [z])
        simp only [EVa, EVb, EVc, EVd, EVn, sub_fr g, enc_fr.c_ne (by decide), decide_eq_true c3, fin, EVf]
    · have e : insU q l = l := by rw [insU_eq, if_neg c]
      have c1 : tw q l ≠ l.length := fun z => c (.inl z)
      have c2 : tw q l < l.length := by omega
      have g : l[tw q l]? = some q := by
        by_cases z : l[tw q l]? = some q
        · exact z
        · exact absurd (.inr z) c
      rw [decide_eq_false (by omega), e]
      simp only [EVa, EVb, EVc, EVd, EVn, sub_fr g, enc_fr.c_ne (by decide), decide_eq_false (show ¬ q ≠ q by simp), EVf]
theorem in_order_ok [Has P "in_order" F_in_order] (l : List Rat) (h : ∀ a ∈ l, Sm a) (hb : l.length ≤ 1000000) : call P (n + 7) "in_order" [.lst (l.map fr)] s = ok (.lst ((sortU l).map fr)) s := by
  rw [call_has "in_order" (n + 1) _ _ rfl]
  obtain ⟨u', v', e⟩ := io_for (P := P) n s (.lst (l.map fr)) l [] .no .no h (by simp) (by simpa using hb)
  simp only [F_in_order, EVa, EVb, EVc, EVd, EVn, gd_lim (show ([] : List D).length ≤ 16000000 by decide), it_l]
  simp only [List.map_nil] at e
  rw [show n + 1 + 5 = n + 6 by omega, e]
  simp only [EVa, EVb, EVc, EVd, EVn]
  rfl
end
end Ev
set_option maxHeartbeats 1000000
/-! PlKind: kinds of things. -/
namespace Ev
open PySem
/-- a thing that a law hands in -/
def Thing : D → Prop
  | .fn _ => False
  | .hand => False
  | .obj c _ => c = "Ring"
  | _ => True
def isInt : D → Bool
  | .int _ => true
  | _ => false
def isTup : D → Bool
  | .tup _ => true
  | _ => false
def isLst : D → Bool
  | .lst _ => true
  | _ => false
def isStr : D → Bool
  | .str _ => true
  | _ => false
def isBl : D → Bool
  | .bl _ => true
  | _ => false
def isRing : D → Bool
  | .obj c _ => c == "Ring"
  | _ => false
def isBet (d : D) (lo hi : Int) : Bool := match d with
  | .int i => decide (lo ≤ i ∧ i ≤ hi)
  | _ => false
def isFrac : D → Bool
  | .tup [.int a, .int b] => decide (0 < b ∧ Int.gcd a b = 1)
  | _ => false
theorem i_int {d : D} (h : Thing d) : isiD d ["int"] = some (isInt d || isBl d) := by
  cases d <;> first | exact h.elim | skip
  case obj c fs => cases h; exact congrArg some (show List.any [("int" : Str)] (isiT "Ring") = false by decide)
  all_goals rfl
theorem i_bool {d : D} (h : Thing d) : isiD d ["bool"] = some (isBl d) := by
  cases d <;> first | exact h.elim | skip
  case obj c fs => cases h; exact congrArg some (show List.any [("bool" : Str)] (isiT "Ring") = false by decide)
  all_goals rfl
theorem i_tup {d : D} (h : Thing d) : isiD d ["tuple"] = some (isTup d) := by
  cases d <;> first | exact h.elim | skip
  case obj c fs => cases h; exact congrArg some (show List.any [("tuple" : Str)] (isiT "Ring") = false by decide)
  all_goals rfl
theorem i_str {d : D} (h : Thing d) : isiD d ["str"] = some (isStr d) := by
  cases d <;> first | exact h.elim | skip
  case obj c fs => cases h; exact congrArg some (show List.any [("str" : Str)] (isiT "Ring") = false by decide)
  all_goals rfl
theorem i_tl {d : D} (h : Thing d) : isiD d ["tuple", "list"] = some (isTup d || isLst d) := by
  cases d <;> first | exact h.elim | skip
  case obj c fs => cases h; exact congrArg some (show List.any [("tuple" : Str), "list"] (isiT "Ring") = false by decide)
  all_goals rfl
theorem i_ring {d : D} (h : Thing d) : isiD d ["Ring"] = some (isRing d) := by
  cases d <;> first | exact h.elim | skip
  case obj c fs => cases h; exact congrArg some (show List.any [("Ring" : Str)] (isiT "Ring") = true by decide)
  all_goals rfl
theorem o_map (b : Bool) : (some b).map D.bl = some (.bl b) := rfl
theorem thing_int (i : Int) : Thing (.int i) := trivial
theorem thing_tup (ds : List D) : Thing (.tup ds) := trivial
theorem thing_lst (ds : List D) : Thing (.lst ds) := trivial
theorem thing_fr (q : Rat) : Thing (fr q) := trivial
theorem thing_ring (vs : List Int) (d : Int) : Thing (ringD vs d) := rfl
theorem isRing_ring (vs : List Int) (d : Int) : isRing (ringD vs d) = true := show (("Ring" : Str) == "Ring") = true by decide
theorem isFrac_fr (q : Rat) : isFrac (fr q) = true := by
  show decide (0 < (q.den : Int) ∧ Int.gcd q.num q.den = 1) = true
  rw [decide_eq_true_eq]
  exact ⟨den_pos' q, q.reduced⟩
def F_is_integer : Fn := ⟨1, 1, [.ret (.andv [(.isi (.var 0) ["int"]), (.notv (.isi (.var 0) ["bool"]))])]⟩
def F_is_between : Fn := ⟨3, 3, [.ret (.andv [(.call "is_integer" [(.var 0)]), (.chain .le .le (.var 1) (.var 0) (.var 2))])]⟩
def F_is_fraction : Fn := ⟨1, 2, [.iff (.any [(.not (.e (.isi (.var 0) ["tuple"]))), (.e (.cmp .ne (.blt .len [(.var 0)]) (.int 2))), (.not (.e (.blt .all [(.comp [1] (.one 1) (.seq (.var 0)) none (.call "is_integer" [(.var 1)]))])))]) [.ret (.bl false)] [], .ret (.andv [(.cmp .gt (.sub (.var 0) (.int 1)) (.int 0)), (.cmp .eq (.call "common_divisor" [(.sub (.var 0) (.int 0)), (.sub (.var 0) (.int 1))]) (.int 1))])]⟩
def F_check_ring : Fn := ⟨1, 1, [.iff (.not (.e (.isi (.var 0) ["Ring"]))) [.raise "NoRing" none] []]⟩
def F_check_point : Fn := ⟨1, 1, [.iff (.not (.e (.call "is_fraction" [(.var 0)]))) [.raise "NoPoint" none] []]⟩
theorem all2 (a b : Bool) : bltD .all [.lst [.bl a, .bl b]] = some (.bl (a && b)) := by
  cases a <;> cases b <;> rfl
theorem all_bl (l : List Bool) : bltD .all [.lst (l.map .bl)] = some (.bl (l.all id)) := by
  have : ∀ l : List Bool, bools (l.map .bl) = some l := by
    intro l
    induction l with
    | nil => rfl
    | cons a l ih => show (bools (l.map .bl)).map (a :: ·) = _; rw [ih]; rfl
  show (bools (l.map .bl)).map _ = _
  rw [this]
  rfl
section
variable {P : Pg} [Low P] (n : Nat) (s : St)
theorem is_integer_ok [Has P "is_integer" F_is_integer] {d : D} (h : Thing d) : call P (n + 6) "is_integer" [d] s = ok (.bl (isInt d)) s := by
  rw [call_has "is_integer" n _ _ rfl]
  simp only [F_is_integer, EVa, EVb, EVc, EVd, EVn, i_int h, i_bool h, o_map]
  cases d <;> first | exact h.elim | rfl
theorem is_between_ok [Has P "is_integer" F_is_integer] [Has P "is_between" F_is_between] {d : D} (h : Thing d) (lo hi : Int) : call P (n + 12) "is_between" [d, .int lo, .int hi] s = ok (.bl (isBet d lo hi)) s := by
  rw [call_has "is_between" (n + 6) _ _ rfl]
  simp only [F_is_between, EVa, EVb, EVc, EVd, EVn, is_integer_ok _ _ h]
  cases d with
  | int i =>
    simp only [isInt, EVa, EVb, EVc, EVd, EVn]
    by_cases h1 : lo ≤ i
    · simp only [decide_eq_true h1, EVa, EVb, EVc, EVd, EVn]
      simp [isBet, h1]
    · simp only [decide_eq_false h1, EVa, EVb, EVc, EVd, EVn]
      simp [isBet, h1]
  | fn _ => exact h.elim
  | hand => exact h.elim
  | _ => simp only [isInt, EVa, EVb, EVc, EVd, EVn, isBet]
theorem is_fraction_not [Has P "is_fraction" F_is_fraction] {d : D} (h : Thing d) (t : ∀ a b, d ≠ .tup [a, b]) : call P (n + 12) "is_fraction" [d] s = ok (.bl false) s := by
  rw [call_has "is_fraction" (n + 6) _ _ rfl]
  simp only [F_is_fraction, EVa, EVb, EVc, EVd, EVn, i_tup h, o_map]
  cases d with
  | tup ds =>
    have : (ds.length : Int) ≠ 2 := by
      intro z
      match ds, z with
      | [], z => simp at z
      | [a], z => simp at z
      | [a, b], z => exact t a b rfl
      | a :: b :: c :: r, z => simp at z; omega
    simp only [isTup, EVa, EVb, EVc, EVd, EVn, Bool.not_true, decide_eq_true this]
  | fn _ => exact h.elim
  | hand => exact h.elim
  | _ => simp only [isTup, EVa, EVb, EVc, EVd, EVn, Bool.not_false]
theorem is_fraction_two [Has P "is_integer" F_is_integer] [Has P "common_divisor" F_common_divisor] [Has P "is_fraction" F_is_fraction] {a b : D} (h : Thing a) (h2 : Thing b) : call P (n + 12) "is_fraction" [.tup [a, b]] s = ok (.bl (isFrac (.tup [a, b]))) s := by
  rw [call_has "is_fraction" (n + 6) _ _ rfl]
  simp only [F_is_fraction, EVa, EVb, EVc, EVd, EVn, i_tup (thing_tup _), o_map, isTup, Bool.not_true, List.length_cons, List.length_nil, it_t]
  rw [decide_eq_false (show ¬ (((0 + 1 + 1 : Nat) : Int) ≠ 2) by decide)]
  simp only [EVa, EVb, EVc, EVd, EVn, it_t]
  rw [if_lim (by simp)]
  have e := mapGo_map (f := compF (cfOf P (n + 6 + 5)) [1] (.one 1) none (.call "is_integer" [.var 1]) [.v (.tup [a, b]), .no]) (e := id) (g := fun d => .bl (isInt d)) (s := s) (l := [a, b]) (by
    intro d hd
    have hd : Thing d := by
      simp at hd
      rcases hd with rfl | rfl <;> assumption
    simp only [id, EVa, EVb, EVc, EVd, EVn]
    rw [show n + 6 + 5 = (n + 5) + 6 by omega, is_integer_ok _ _ hd]
    simp only [EVa, EVb, EVc, EVd, EVn])
  simp only [List.map_id_fun, id, List.map_cons, List.map_nil] at e
  simp only [EVa, EVb, EVc, EVd, EVn, e, all2]
  cases a with
  | int i =>
    cases b with
    | int j =>
      simp only [isInt, Bool.and_self, Bool.not_true, EVa, EVb, EVc, EVd, EVn]
      by_cases z : 0 < j
      · rw [decide_eq_true z]
        simp only [EVa, EVb, EVc, EVd, EVn]
        rw [show n + 6 + 5 = (n + 5) + 6 by omega, gcd_ok]
        simp only [EVa, EVb, EVc, EVd, EVn]
        have : decide ((Int.gcd i j : Int) = 1) = decide (0 < j ∧ Int.gcd i j = 1) := by
          rw [decide_eq_decide]
          omega
        rw [this]
        rfl
      · simp only [decide_eq_false z, EVa, EVb, EVc, EVd, EVn]
        simp [isFrac, z]
    | fn _ => exact h2.elim
    | hand => exact h2.elim
    | _ => simp only [isInt, Bool.and_false, Bool.not_false, EVa, EVb, EVc, EVd, EVn, isFrac]
  | fn _ => exact h.elim
  | hand => exact h.elim
  | _ => cases b <;> simp only [isInt, Bool.false_and, Bool.not_false, EVa, EVb, EVc, EVd, EVn, isFrac]
theorem is_fraction_ok [Has P "is_integer" F_is_integer] [Has P "common_divisor" F_common_divisor] [Has P "is_fraction" F_is_fraction] {d : D} (h : Thing d) (h2 : ∀ a b, d = .tup [a, b] → Thing a ∧ Thing b) : call P (n + 12) "is_fraction" [d] s = ok (.bl (isFrac d)) s := by
  by_cases t : ∃ a b, d = .tup [a, b]
  · obtain ⟨a, b, rfl⟩ := t
    obtain ⟨g1, g2⟩ := h2 a b rfl
    exact is_fraction_two n s g1 g2
  · rw [is_fraction_not n s h (fun a b z => t ⟨a, b, z⟩)]
    congr 2
    unfold isFrac
    split
    · rename_i a b; exact absurd ⟨_, _, rfl⟩ t
    · rfl
theorem is_fraction_fr [Has P "is_integer" F_is_integer] [Has P "common_divisor" F_common_divisor] [Has P "is_fraction" F_is_fraction] (q : Rat) : call P (n + 12) "is_fraction" [fr q] s = ok (.bl true) s := by
  rw [show fr q = .tup [.int q.num, .int q.den] from rfl, is_fraction_two n s (thing_int _) (thing_int _)]
  rw [show D.tup [.int q.num, .int q.den] = fr q from rfl, isFrac_fr]
theorem check_ring_ok [Has P "check_ring" F_check_ring] {d : D} (h : Thing d) (h2 : isRing d = true) : call P (n + 6) "check_ring" [d] s = ok .non s := by
  rw [call_has "check_ring" n _ _ rfl]
  simp only [F_check_ring, EVa, EVb, EVc, EVd, EVn, i_ring h, o_map, h2, Bool.not_true]
theorem check_ring_ex [Has P "check_ring" F_check_ring] {d : D} (h : Thing d) (h2 : isRing d = false) : call P (n + 6) "check_ring" [d] s = some (.ex ⟨"NoRing", none⟩, s) := by
  rw [call_has "check_ring" n _ _ rfl]
  simp only [F_check_ring, EVa, EVb, EVc, EVd, EVn, i_ring h, o_map, h2, Bool.not_false]
section
variable [Has P "is_integer" F_is_integer] [Has P "common_divisor" F_common_divisor] [Has P "is_fraction" F_is_fraction] [Has P "check_point" F_check_point]
theorem check_point_ok {d : D} (h : Thing d) (h2 : ∀ a b, d = .tup [a, b] → Thing a ∧ Thing b) (h3 : isFrac d = true) : call P (n + 18) "check_point" [d] s = ok .non s := by
  rw [call_has "check_point" (n + 12) _ _ rfl]
  simp only [F_check_point, EVa, EVb, EVc, EVd, EVn]
  rw [show n + 12 + 5 = (n + 5) + 12 by omega, is_fraction_ok _ _ h h2]
  simp only [EVa, EVb, EVc, EVd, EVn, h3, Bool.not_true]
theorem check_point_ex {d : D} (h : Thing d) (h2 : ∀ a b, d = .tup [a, b] → Thing a ∧ Thing b) (h3 : isFrac d = false) : call P (n + 18) "check_point" [d] s = some (.ex ⟨"NoPoint", none⟩, s) := by
  rw [call_has "check_point" (n + 12) _ _ rfl]
  simp only [F_check_point, EVa, EVb, EVc, EVd, EVn]
  rw [show n + 12 + 5 = (n + 5) + 12 by omega, is_fraction_ok _ _ h h2]
  simp only [EVa, EVb, EVc, EVd, EVn, h3, Bool.not_false]
theorem check_point_fr (q : Rat) : call P (n + 18) "check_point" [fr q] s = ok .non s := check_point_ok n s (thing_fr q) (fun a b h => by cases h; exact ⟨trivial, trivial⟩) (isFrac_fr q)
end
end
end Ev
set_option maxHeartbeats 1000000
/-! PlDraw: what is drawn. -/
namespace Ev
open PySem
theorem HandG.mono {h : Hand} {c d : Int} (g : HandG h c) (l : c ≤ d) : HandG h d := ⟨g.cells, g.len, g.i, g.a, g.b, g.c.1, by have := g.c.2; omega⟩
theorem drawR_ok {h : Hand} {c m : Int} (g : HandG h c) (hc : c < 2 ^ 59) (hm : 0 < m ∧ m < 1073741824) : ∃ d h', drawR h m = some (d, h') ∧ 0 ≤ d ∧ d < m ∧ HandG h' (c + 1) := by
  have g6 := g.c
  obtain ⟨i', a', b', v', h1, h2, h3, h4, e⟩ := draw1 h.cells g.cells h.i h.a h.b h.c m .no .no .no g.i g.a g.b
  obtain ⟨d, a2, c2, u3, v3, w3, k1, k2, k3, k4, k5, e2⟩ := draw2 (h.cells.map .int) i' a' b' h.c m .no v' .no h2 hm ⟨h3, h4⟩ ⟨by omega, by omega⟩
  refine ⟨d, ⟨h.cells, i', a2, b', c2⟩, ?_, k1, k2, ⟨g.cells, g.len, h1, k3, ⟨h3, h4⟩, ⟨by show 0 ≤ c2; omega, by show c2 ≤ c + 1; omega⟩⟩⟩
  have e3 : evSs (cfOf P0 0) S_draw (rho0 h m) none = some (.ok (.ret (handE (h.cells.map .int) i' a2 b' c2 m u3 v3 w3) (.int d)), none) := by
    have : S_draw = S_draw.head (by decide) :: S_draw.drop 1 := rfl
    rw [this, s_cons, show rho0 h m = handE (h.cells.map .int) h.i h.a h.b h.c m .no .no .no from rfl, e, bnd_ok, k_seqn, e2]
  unfold drawR
  rw [e3]
  show (handOf (.own (.lst [.lst (h.cells.map .int), .int i', .int a2, .int b', .int c2]))).map _ = _
  have : ∀ l : List Int, intsD (l.map .int) = some l := by
    intro l
    induction l with
    | nil => rfl
    | cons a l ih => show (intsD (l.map .int)).map (a :: ·) = _; rw [ih]; rfl
  show ((intsD (h.cells.map .int)).map _).map _ = _
  rw [this]
  rfl
class HasDraw (P : Pg) : Prop where
  prim : P.prim "_law_draw" = some (1, drawP)
def F_law_any : Fn := ⟨2, 2, [.ret (.sub (.var 1) (.call "_law_draw" [(.var 0), (.blt .len [(.var 1)])]))]⟩
section
variable {P : Pg} [Low P] [HasDraw P] (n : Nat) {h : Hand} {c : Int}
theorem draw_call {m : Int} (g : HandG h c) (hc : c < 2 ^ 59) (hm : 0 < m ∧ m < 1073741824) : ∃ (d : Int) (h' : Hand), (∀ n, call P (n + 1) "_law_draw" [.hand, .int m] (some h) = ok (.int d) (some h')) ∧ 0 ≤ d ∧ d < m ∧ HandG h' (c + 1) := by
  obtain ⟨d, h', e, h1, h2, h3⟩ := drawR_ok g hc hm
  refine ⟨d, h', fun n => ?_, h1, h2, h3⟩
  rw [call_succ]
  unfold lvl
  rw [HasDraw.prim]
  dsimp only
  rw [if_pos (by omega)]
  unfold drawP
  simp only [e]
  rfl
theorem any_call [Has P "_law_any" F_law_any] {xs : List D} (g : HandG h c) (hc : c < 2 ^ 59) (h1 : 0 < xs.length) (h2 : xs.length < 1073741824) : ∃ (x : D) (h' : Hand), (∀ n, call P (n + 6) "_law_any" [.hand, .lst xs] (some h) = ok x (some h')) ∧ x ∈ xs ∧ HandG h' (c + 1) := by
  obtain ⟨d, h', e, k1, k2, k3⟩ := draw_call (P := P) (m := (xs.length : Int)) g hc ⟨by omega, by omega⟩
  have hd : d.toNat < xs.length := by omega
  refine ⟨xs[d.toNat], h', fun n => ?_, List.getElem_mem hd, k3⟩
  rw [call_has "_law_any" n _ _ rfl]
  simp only [F_law_any, EVa, EVb, EVc, EVd, EVn, e, sub_ixl k1 k2, List.getElem?_eq_getElem hd]
/-- item by item -/
inductive F2 {α β : Type} (R : α → β → Prop) : List α → List β → Prop where
  | nil : F2 R [] []
  | cons {a : α} {b : β} {l : List α} {r : List β} : R a b → F2 R l r → F2 R (a :: l) (b :: r)
theorem F2.len {α β : Type} {R : α → β → Prop} {l : List α} {r : List β} (h : F2 R l r) : l.length = r.length := by
  induction h with
  | nil => rfl
  | cons _ _ ih => simp [ih]
/-- a comprehension that draws -/
theorem mapGo_gets {α : Type} {f : Nat → D → St → Out (Option D)} {e : α → D} {Q : α → D → Prop} {k B : Int} (hk : 0 ≤ k) : ∀ {l : List α} {h : Hand} {c : Int}, (∀ a ∈ l, ∀ h c, HandG h c → c + k ≤ B → ∃ y h', (∀ n, f n (e a) (some h) = ok (some y) (some h')) ∧ HandG h' (c + k) ∧ Q a y) → HandG h c → c + k * l.length ≤ B → ∃ ys h', (∀ n, mapGo (f n) (l.map e) (some h) = ok ys (some h')) ∧ HandG h' (c + k * l.length) ∧ F2 Q l ys
  | [], h, c, _, g, _ => ⟨[], h, fun _ => rfl, by simpa using g, .nil⟩
  | a :: l, h, c, H, g, hb => by
    have e1 : k * ((a :: l).length : Int) = k + k * (l.length : Int) := by
      rw [List.length_cons]; push_cast; rw [Int.mul_add]; omega
    have e2 : 0 ≤ k * (l.length : Int) := Int.mul_nonneg hk (by omega)
    obtain ⟨y, h1, q1, q2, q3⟩ := H a (by simp) h c g (by omega)
    obtain ⟨ys, h2, r1, r2, r3⟩ := mapGo_gets hk (l := l) (h := h1) (c := c + k) (fun b hb => H b (by simp [hb])) q2 (by omega)
    refine ⟨y :: ys, h2, fun n => ?_, r2.mono (by omega), .cons q3 r3⟩
    rw [List.map_cons, mapGo_c, q1, bnd_ok, r1]
    rfl
end
end Ev
set_option maxHeartbeats 1000000
/-! PlAlk: alike points, points on a grid, where they go. -/
namespace Ev
open PySem
theorem alk_eq (n : Nat) (q : Rat) : q = alk n q + ((q.num / (n * q.den : Int) : Int) : Rat) * (n : Rat) := by
  have z : ((q.den : Int) : Rat) ≠ 0 := by
    have := q.den_nz
    simp [this]
  have e := num_den q
  have h := Int.mul_ediv_add_emod q.num (n * q.den : Int)
  unfold alk
  generalize q.num / (n * q.den : Int) = k at *
  generalize q.num % (n * q.den : Int) = r at *
  have h2 : (q.num : Rat) = (n : Rat) * ((q.den : Int) : Rat) * (k : Rat) + (r : Rat) := by
    rw [← h]
    simp only [Rat.intCast_add, Rat.intCast_mul]
    rfl
  generalize ((q.den : Int) : Rat) = D' at *
  rw [Rat.div_def]
  have : D' * D'⁻¹ = 1 := Rat.mul_inv_cancel _ z
  grind
theorem alk_nonneg {n : Nat} (hn : 0 < n) (q : Rat) : 0 ≤ alk n q := by
  unfold alk
  rw [← Rat.divInt_eq_div]
  have h := Nat.mul_pos hn q.den_pos
  exact Rat.divInt_nonneg (Int.emod_nonneg _ (by have : (n * q.den : Int) = ((n * q.den : Nat) : Int) := by simp
                                                 omega)) (by omega)
theorem alk_lt {n : Nat} (hn : 0 < n) (q : Rat) : alk n q < n := by
  unfold alk
  have dp : (0 : Rat) < ((q.den : Int) : Rat) := Rat.intCast_pos.mpr (den_pos' q)
  rw [Rat.div_lt_iff dp]
  have h := Nat.mul_pos hn q.den_pos
  have e : (n * q.den : Int) = ((n * q.den : Nat) : Int) := by simp
  have h2 := Int.emod_lt_of_pos q.num (show (0 : Int) < n * q.den by omega)
  have h3 : (((q.num % (n * q.den : Int)) : Int) : Rat) < ((n * q.den : Int) : Rat) := Rat.intCast_lt_intCast.mpr h2
  rw [Rat.intCast_mul] at h3
  exact h3
theorem mul_int_zero {n : Nat} {a : Rat} {k : Int} (h : a = (k : Rat) * n) (h1 : -(n : Rat) < a) (h2 : a < n) : k = 0 := by
  have n0 : (0 : Rat) < n := by grind
  have h3 : (k : Rat) < 1 := by
    have : (k : Rat) * n < 1 * n := by grind
    exact (Rat.mul_lt_mul_right n0).mp this
  have h4 : (-1 : Rat) < k := by
    have : (-1 : Rat) * n < k * n := by grind
    exact (Rat.mul_lt_mul_right n0).mp this
  have h5 : k < 1 := Rat.intCast_lt_intCast.mp (by simpa using h3)
  have h6 : -1 < k := Rat.intCast_lt_intCast.mp (by
    have : ((-1 : Int) : Rat) = (-1 : Rat) := by rfl
    rw [this]; exact h4)
  omega
theorem alk_unique {n : Nat} {q r : Rat} {k : Int} (h1 : 0 ≤ r) (h2 : r < n) (h : q = r + (k : Rat) * n) : alk n q = r := by
  have n0 : (0 : Rat) < n := by grind
  have hn : 0 < n := by exact_mod_cast n0
  have a1 := alk_nonneg hn q
  have a2 := alk_lt hn q
  have e := alk_eq n q
  generalize q.num / (n * q.den : Int) = j at e
  have e2 : alk n q - r = ((k - j : Int) : Rat) * n := by
    rw [Rat.intCast_sub]
    grind
  have z := mul_int_zero e2 (by grind) (by grind)
  rw [z] at e2
  have : ((0 : Int) : Rat) = 0 := rfl
  rw [this] at e2
  grind
theorem alk_ex (n : Nat) (q : Rat) : ∃ k : Int, q = alk n q + (k : Rat) * n := ⟨_, alk_eq n q⟩
theorem alk_iff {n : Nat} (hn : 0 < n) {p q : Rat} : alk n p = alk n q ↔ ∃ k : Int, p = q + (k : Rat) * n := by
  constructor
  · intro h
    obtain ⟨i, e1⟩ := alk_ex n p
    obtain ⟨j, e2⟩ := alk_ex n q
    refine ⟨i - j, ?_⟩
    rw [Rat.intCast_sub]
    grind
  · rintro ⟨k, e⟩
    obtain ⟨j, e2⟩ := alk_ex n q
    refine alk_unique (k := k + j) (alk_nonneg hn q) (alk_lt hn q) ?_
    rw [Rat.intCast_add]
    grind
theorem alk_self {n : Nat} {q : Rat} (h1 : 0 ≤ q) (h2 : q < n) : alk n q = q := alk_unique (k := 0) h1 h2 (by have : ((0 : Int) : Rat) = 0 := rfl
                                                                                                              rw [this]; grind)
theorem alk_alk {n : Nat} (hn : 0 < n) (q : Rat) : alk n (alk n q) = alk n q := alk_self (alk_nonneg hn q) (alk_lt hn q)
theorem alk_sub {n : Nat} (hn : 0 < n) (p q : Rat) : alk n (alk n p - alk n q) = alk n (p - q) := by
  obtain ⟨i, e1⟩ := alk_ex n p
  obtain ⟨j, e2⟩ := alk_ex n q
  rw [alk_iff hn]
  refine ⟨j - i, ?_⟩
  rw [Rat.intCast_sub]
  grind
theorem alk_zero {n : Nat} (hn : 0 < n) {p q : Rat} : alk n (p - q) = 0 ↔ alk n p = alk n q := by
  have z : alk n 0 = 0 := alk_self (by grind) (by have : (0 : Rat) < n := by exact_mod_cast hn
                                                  exact this)
  constructor
  · intro h
    rw [← z, alk_iff hn] at h
    obtain ⟨k, e⟩ := h
    rw [alk_iff hn]
    exact ⟨k, by grind⟩
  · intro h
    rw [alk_iff hn] at h
    obtain ⟨k, e⟩ := h
    rw [← z, alk_iff hn]
    exact ⟨k, by grind⟩
/-! ### grids -/
def Gr (m : Nat) (q : Rat) : Prop := ∃ k : Int, q * (m : Rat) = k
theorem Gr.alk {m n : Nat} {q : Rat} (h : Gr m q) : Gr m (alk n q) := by
  obtain ⟨k, e⟩ := h
  obtain ⟨j, e2⟩ := alk_ex n q
  refine ⟨k - j * n * m, ?_⟩
  simp only [Rat.intCast_sub, Rat.intCast_mul]
  have z : ((n : Int) : Rat) = (n : Rat) := rfl
  have z2 : ((m : Int) : Rat) = (m : Rat) := rfl
  rw [z, z2]
  grind
theorem Gr.val {m : Nat} {q : Rat} (h : Gr m q) (vs : List Int) (d : Int) : Gr m (val vs d q) := by
  obtain ⟨k, e⟩ := h
  unfold Ev.val
  refine ⟨dotv vs d q.floor * m + (dotv vs d (q.floor + 1) - dotv vs d q.floor) * (k - q.floor * m), ?_⟩
  generalize dotv vs d (q.floor + 1) = b
  generalize dotv vs d q.floor = a
  generalize q.floor = f
  simp only [Rat.intCast_sub, Rat.intCast_mul, Rat.intCast_add]
  have z2 : ((m : Int) : Rat) = (m : Rat) := rfl
  rw [z2]
  grind
theorem Gr.sub {m : Nat} {p q : Rat} (h : Gr m p) (h2 : Gr m q) : Gr m (p - q) := by
  obtain ⟨k, e⟩ := h
  obtain ⟨j, e2⟩ := h2
  exact ⟨k - j, by rw [Rat.intCast_sub]; grind⟩
theorem Gr.add {m : Nat} {p q : Rat} (h : Gr m p) (h2 : Gr m q) : Gr m (p + q) := by
  obtain ⟨k, e⟩ := h
  obtain ⟨j, e2⟩ := h2
  exact ⟨k + j, by rw [Rat.intCast_add]; grind⟩
theorem Gr.int (m : Nat) (i : Int) : Gr m (i : Rat) := ⟨i * m, by rw [Rat.intCast_mul]; rfl⟩
theorem Gr.up {m k : Nat} {q : Rat} (h : Gr m q) (hk : m ∣ k) : Gr k q := by
  obtain ⟨i, e⟩ := h
  obtain ⟨j, rfl⟩ := hk
  refine ⟨i * j, ?_⟩
  rw [Rat.intCast_mul]
  have z : (((m * j : Nat)) : Rat) = (m : Rat) * (j : Rat) := Rat.natCast_mul m j
  have z2 : ((j : Int) : Rat) = (j : Rat) := rfl
  rw [z, z2]
  grind
theorem Gr.self (q : Rat) : Gr q.den q := ⟨q.num, num_den q⟩
theorem Gr.dvd {m : Nat} {q : Rat} (h : Gr m q) : q.den ∣ m := by
  obtain ⟨k, e⟩ := h
  have h1 : q.num * (m : Int) = k * q.den := by
    have e2 := num_den q
    have : ((q.num * (m : Int) : Int) : Rat) = ((k * q.den : Int) : Rat) := by
      simp only [Rat.intCast_mul]
      have z2 : ((m : Int) : Rat) = (m : Rat) := rfl
      rw [z2]
      grind
    exact Rat.intCast_inj.mp this
  have h2 : (q.den : Int) ∣ q.num * m := ⟨k, by rw [h1, Int.mul_comm]⟩
  have h3 : q.den ∣ (q.num * m).natAbs := Int.ofNat_dvd_left.mp h2
  rw [Int.natAbs_mul] at h3
  exact (Nat.Coprime.dvd_of_dvd_mul_left q.reduced.symm h3)
theorem Gr.den {m : Nat} {q : Rat} (h : Gr m q) (hm : 0 < m) : q.den ≤ m := Nat.le_of_dvd hm h.dvd
/-- in bounds -/
structure In (B : Nat) (q : Rat) : Prop where
  lo : -(B : Rat) ≤ q
  hi : q ≤ B
theorem In.num {B : Nat} {q : Rat} (h : In B q) : q.num.natAbs ≤ B * q.den := by
  have e := num_den q
  have d0 : (0 : Rat) ≤ ((q.den : Int) : Rat) := by
    have := Rat.intCast_pos.mpr (den_pos' q)
    grind
  have h1 : q * ((q.den : Int) : Rat) ≤ (B : Rat) * ((q.den : Int) : Rat) := Rat.mul_le_mul_of_nonneg_right h.hi d0
  have h2 : -(B : Rat) * ((q.den : Int) : Rat) ≤ q * ((q.den : Int) : Rat) := Rat.mul_le_mul_of_nonneg_right h.lo d0
  rw [e] at h1 h2
  have h3 : q.num ≤ (B : Int) * q.den := Rat.intCast_le_intCast.mp (by rw [Rat.intCast_mul]; exact h1)
  have h4 : -(B : Int) * q.den ≤ q.num := Rat.intCast_le_intCast.mp (by rw [Rat.intCast_mul, Rat.intCast_neg]; exact h2)
  have e : (B : Int) * q.den = ((B * q.den : Nat) : Int) := by simp
  have e2 : -(B : Int) * q.den = -((B * q.den : Nat) : Int) := by simp [Int.neg_mul]
  omega
theorem sm_of {B m : Nat} {q : Rat} (h : In B q) (g : Gr m q) (hm : 0 < m) (h1 : m < 2 ^ 60) (h2 : B * m < 2 ^ 100) : Sm q := by
  have hd := g.den hm
  have hn := h.num
  have : B * q.den ≤ B * m := Nat.mul_le_mul_left _ hd
  exact ⟨by omega, by omega⟩
theorem alk_in {n : Nat} (hn : 0 < n) (q : Rat) : In n (alk n q) := by
  have h1 := alk_nonneg hn q
  have h2 := alk_lt hn q
  have h3 : (0 : Rat) < n := by exact_mod_cast hn
  exact ⟨by grind, by grind⟩
/-! ### a round on -/
theorem dotv_round {vs : List Int} {d : Int} (hn : 0 < vs.length) (i k : Int) : dotv vs d (i + k * vs.length) = dotv vs d i + d * k * vs.length := by
  unfold dotv
  rw [Int.add_mul_emod_self_right, Int.add_mul_ediv_right _ _ (by omega), Int.mul_add]
  have : d * (vs.length : Int) * k = d * k * vs.length := by rw [Int.mul_assoc, Int.mul_comm (vs.length : Int), ← Int.mul_assoc]
  omega
theorem val_round {vs : List Int} {d : Int} (hn : 0 < vs.length) (q : Rat) (k : Int) : val vs d (q + (k : Rat) * (vs.length : Rat)) = val vs d q + ((d * k : Int) : Rat) * (vs.length : Rat) := by
  unfold val
  have e : ((k : Rat) * (vs.length : Rat)) = (((k * vs.length : Int)) : Rat) := by rw [Rat.intCast_mul]; rfl
  rw [e, Rat.floor_add_intCast, dotv_round hn, show q.floor + k * (vs.length : Int) + 1 = (q.floor + 1) + k * vs.length by omega, dotv_round hn]
  generalize dotv vs d (q.floor + 1) = b
  generalize dotv vs d q.floor = a
  generalize q.floor = f
  simp only [Rat.intCast_sub, Rat.intCast_mul, Rat.intCast_add]
  have z2 : ((vs.length : Int) : Rat) = (vs.length : Rat) := rfl
  rw [z2]
  grind
theorem dotv_in {vs : List Int} {d : Int} (h1 : 0 < vs.length) (h2 : vs.length ≤ 8) (hv : ∀ v ∈ vs, v.natAbs ≤ 1000) (hd : d.natAbs ≤ 10) (i : Int) : (dotv vs d i).natAbs ≤ 1080 + 10 * i.natAbs := by
  unfold dotv
  have a1 : (vs.getD (i % (vs.length : Int)).toNat 0).natAbs ≤ 1000 := by
    rw [List.getD_eq_getElem?_getD]
    cases e : vs[(i % (vs.length : Int)).toNat]? with
    | none => simp
    | some v => exact hv v (List.mem_of_getElem? e)
  have m0 := Int.emod_nonneg i (show (vs.length : Int) ≠ 0 by omega)
  have m1 := Int.emod_lt_of_pos i (show (0 : Int) < vs.length by omega)
  have m2 := Int.mul_ediv_add_emod i vs.length
  have a2 : (d * vs.length * (i / (vs.length : Int))).natAbs ≤ 10 * (i.natAbs + 8) := by
    rw [Int.mul_assoc, Int.natAbs_mul]
    exact Nat.mul_le_mul hd (by omega)
  omega
theorem val_in {vs : List Int} {d : Int} (h1 : 0 < vs.length) (h2 : vs.length ≤ 8) (hv : ∀ v ∈ vs, v.natAbs ≤ 1000) (hd : d.natAbs ≤ 10) {B : Nat} {q : Rat} (h : In B q) : In (30 * B + 5000) (val vs d q) := by
  have f1 := Rat.floor_le q
  have f2 := Rat.lt_floor_add_one q
  have a0 := dotv_in h1 h2 hv hd q.floor
  have a1 := dotv_in h1 h2 hv hd (q.floor + 1)
  have b1 : -(B : Int) - 1 ≤ q.floor := by
    have : -(B : Int) - 1 < q.floor + 1 := Rat.intCast_lt_intCast.mp (by
      have e : ((-(B : Int) - 1 : Int) : Rat) = -(B : Rat) - 1 := by rw [Rat.intCast_sub, Rat.intCast_neg]; rfl
      rw [e]
      have := h.lo
      grind)
    omega
  have b2 : q.floor ≤ B := Rat.intCast_le_intCast.mp (by
      have e : ((B : Int) : Rat) = (B : Rat) := rfl
      rw [e]
      have := h.hi
      grind)
  unfold val
  generalize hA : dotv vs d q.floor = A at *
  generalize hC : dotv vs d (q.floor + 1) = C' at *
  have t0 : 0 ≤ q - q.floor := by grind
  have t1 : q - q.floor ≤ 1 := by
    rw [Rat.intCast_add] at f2
    have : ((1 : Int) : Rat) = 1 := rfl
    grind
  generalize q - (q.floor : Rat) = t at t0 t1 ⊢
  have c1 : A ≤ 1080 + 10 * (B + 1) := by omega
  have c2 : -(1080 + 10 * (B + 1)) ≤ A := by omega
  have c3 : C' ≤ 1080 + 10 * (B + 2) := by omega
  have c4 : -(1080 + 10 * (B + 2)) ≤ C' := by omega
  have g1 : (A : Rat) ≤ 1080 + 10 * ((B : Rat) + 1) := by
    have := Rat.intCast_le_intCast.mpr c1
    simpa [Rat.intCast_add, Rat.intCast_mul, Rat.intCast_natCast] using this
  have g2 : -(1080 + 10 * ((B : Rat) + 1)) ≤ (A : Rat) := by
    have := Rat.intCast_le_intCast.mpr c2
    simpa [Rat.intCast_add, Rat.intCast_mul, Rat.intCast_neg, Rat.intCast_natCast] using this
  have g3 : (C' : Rat) ≤ 1080 + 10 * ((B : Rat) + 2) := by
    have := Rat.intCast_le_intCast.mpr c3
    simpa [Rat.intCast_add, Rat.intCast_mul, Rat.intCast_natCast] using this
  have g4 : -(1080 + 10 * ((B : Rat) + 2)) ≤ (C' : Rat) := by
    have := Rat.intCast_le_intCast.mpr c4
    simpa [Rat.intCast_add, Rat.intCast_mul, Rat.intCast_neg, Rat.intCast_natCast] using this
  rw [Rat.intCast_sub]
  have b0 : (0 : Rat) ≤ (B : Rat) := by exact_mod_cast Nat.zero_le B
  have hN : (((30 * B + 5000 : Nat)) : Rat) = 30 * (B : Rat) + 5000 := by
    rw [Rat.natCast_add, Rat.natCast_mul]; rfl
  have e : (A : Rat) + ((C' : Rat) - A) * t = A * (1 - t) + C' * t := by grind
  have k1 : (A : Rat) * (1 - t) ≤ (1080 + 10 * ((B : Rat) + 1)) * (1 - t) := Rat.mul_le_mul_of_nonneg_right g1 (by grind)
  have k2 : (C' : Rat) * t ≤ (1080 + 10 * ((B : Rat) + 2)) * t := Rat.mul_le_mul_of_nonneg_right g3 t0
  have k3 : -(1080 + 10 * ((B : Rat) + 1)) * (1 - t) ≤ (A : Rat) * (1 - t) := Rat.mul_le_mul_of_nonneg_right g2 (by grind)
  have k4 : -(1080 + 10 * ((B : Rat) + 2)) * t ≤ (C' : Rat) * t := Rat.mul_le_mul_of_nonneg_right g4 t0
  constructor
  · rw [hN, e]; grind
  · rw [hN, e]; grind
theorem alk_val {vs : List Int} {d : Int} (hn : 0 < vs.length) {p q : Rat} (h : alk vs.length p = alk vs.length q) : alk vs.length (val vs d p) = alk vs.length (val vs d q) := by
  rw [alk_iff hn] at h
  obtain ⟨k, rfl⟩ := h
  rw [alk_iff hn]
  exact ⟨d * k, val_round hn q k⟩
end Ev
set_option maxHeartbeats 1000000
/-! PlLow: the laws' own fractions. -/
namespace Ev
open PySem
def F_law_low : Fn := ⟨2, 4, [.par [(2, false), (3, false)] [(.blt .abs [(.var 0)]), (.blt .abs [(.var 1)])], .loop (.e (.cmp .gt (.var 3) (.int 0))) [.par [(2, false), (3, false)] [(.var 3), (.bin .mod (.blt .int [(.var 2)]) (.var 3))]], .asg 2 (.ite (.e (.cmp .gt (.var 1) (.int 0))) (.var 2) (.bin .sub (.int 0) (.var 2))), .ret (.tup [(.bin .fdiv (.var 0) (.var 2)), (.bin .fdiv (.var 1) (.var 2))])]⟩
def F_law_add : Fn := ⟨2, 2, [.ret (.call "_law_low" [(.bin .add (.bin .mul (.sub (.var 0) (.int 0)) (.sub (.var 1) (.int 1))) (.bin .mul (.sub (.var 1) (.int 0)) (.sub (.var 0) (.int 1)))), (.bin .mul (.sub (.var 0) (.int 1)) (.sub (.var 1) (.int 1)))])]⟩
def F_law_sub : Fn := ⟨2, 2, [.ret (.call "_law_low" [(.bin .sub (.bin .mul (.sub (.var 0) (.int 0)) (.sub (.var 1) (.int 1))) (.bin .mul (.sub (.var 1) (.int 0)) (.sub (.var 0) (.int 1)))), (.bin .mul (.sub (.var 0) (.int 1)) (.sub (.var 1) (.int 1)))])]⟩
def F_law_less : Fn := ⟨2, 2, [.ret (.cmp .lt (.bin .mul (.sub (.var 0) (.int 0)) (.sub (.var 1) (.int 1))) (.bin .mul (.sub (.var 1) (.int 0)) (.sub (.var 0) (.int 1))))]⟩
def F_law_dot_of : Fn := ⟨2, 3, [.asg 2 (.blt .len [(.sub (.var 0) (.int 0))]), .ret (.bin .add (.sub (.sub (.var 0) (.int 0)) (.bin .mod (.blt .int [(.var 1)]) (.var 2))) (.bin .mul (.bin .mul (.sub (.var 0) (.int 1)) (.var 2)) (.bin .fdiv (.var 1) (.var 2))))]⟩
def F_law_to : Fn := ⟨2, 5, [.asg 2 (.bin .fdiv (.sub (.var 1) (.int 0)) (.sub (.var 1) (.int 1))), .par [(3, false), (4, false)] [(.call "_law_dot_of" [(.var 0), (.var 2)]), (.bin .sub (.call "_law_dot_of" [(.var 0), (.bin .add (.var 2) (.int 1))]) (.call "_law_dot_of" [(.var 0), (.var 2)]))], .ret (.call "_law_low" [(.bin .add (.bin .mul (.var 3) (.sub (.var 1) (.int 1))) (.bin .mul (.var 4) (.bin .sub (.sub (.var 1) (.int 0)) (.bin .mul (.var 2) (.sub (.var 1) (.int 1)))))), (.sub (.var 1) (.int 1))])]⟩
def F_law_on : Fn := ⟨2, 2, [.ret (.call "_law_low" [(.bin .mod (.blt .int [(.sub (.var 1) (.int 0))]) (.bin .mul (.var 0) (.sub (.var 1) (.int 1)))), (.sub (.var 1) (.int 1))])]⟩
/-- the law's own ring -/
def diskD (vs : List Int) (d : Int) : D := .tup [.tup (vs.map .int), .int d]
theorem low_loop (X : Cf) (s : St) (x y : Sl) : ∀ (k a b : Nat), b ≤ k → loopGo X (.e (.cmp .gt (.var 3) (.int 0))) [.par [(2, false), (3, false)] [(.var 3), (.bin .mod (.blt .int [(.var 2)]) (.var 3))]] [x, y, .v (.int a), .v (.int b)] s = ok (.nx [x, y, .v (.int (Nat.gcd a b)), .v (.int 0)]) s
  | k, a, 0, _ => by
    rw [loop_f (s1 := s) (by simp only [EVa, EVb, EVd, EVn]; rfl), Nat.gcd_zero_right]
    rfl
  | 0, a, b + 1, h => by omega
  | k + 1, a, b + 1, h => by
    have m : Int.fmod (a : Int) ((b + 1 : Nat) : Int) = ((a % (b + 1) : Nat) : Int) := by
      rw [Int.fmod_eq_emod_of_nonneg _ (by omega)]; rfl
    rw [loop_t (s1 := s) (s2 := s) (ρ' := [x, y, .v (.int ((b + 1 : Nat) : Int)), .v (.int ((a % (b + 1) : Nat) : Int))]) (by simp only [EVa, EVb, EVd, EVn]; rw [decide_eq_true (by omega)])
      (by simp only [EVa, EVb, EVc, EVd, EVn, b_mod (i := (a : Int)) (j := ((b + 1 : Nat) : Int)) (by omega), m])]
    rw [low_loop X s x y k (b + 1) (a % (b + 1)) (by have := Nat.mod_lt a (y := b + 1) (by omega); omega)]
    rw [show Nat.gcd a (b + 1) = Nat.gcd (b + 1) (a % (b + 1)) by rw [Nat.gcd_comm a, Nat.gcd_rec (b+1) a, Nat.gcd_comm]]
section
variable {P : Pg} [Low P] (n : Nat) (s : St)
theorem low_ok (f : Str) [Has P f F_law_low] (a b : Int) (hb : 0 < b) (h2 : b.natAbs < 2 ^ 250) : call P (n + 6) f [.int a, .int b] s = ok (fr (a / b)) s := by
  rw [call_has f n _ _ rfl]
  have g0 := gcd_pos' (a := a) (b := b) (by omega)
  have g1 := gcd_le' (a := a) (b := b) (by omega)
  have e : ∀ i, binD .fdiv (.int i) (.int (Int.gcd a b)) = some (.int (i.fdiv (Int.gcd a b))) := fun i => b_div g0 (by omega)
  have l := fun X s x y => low_loop X s x y _ a.natAbs b.natAbs (Nat.le_refl _)
  rw [show Nat.gcd a.natAbs b.natAbs = Int.gcd a b from rfl] at l
  simp only [F_law_low, EVa, EVb, EVc, EVd, EVn, l, decide_eq_true hb, e]
  unfold fr
  rw [div_num hb, div_den hb]
theorem lowN_ok (f : Str) [Has P f F_law_low] (a b : Int) (hb : b < 0) (h2 : b.natAbs < 1073741824) : call P (n + 6) f [.int a, .int b] s = ok (fr (a / b)) s := by
  rw [call_has f n _ _ rfl]
  have g0 := gcd_pos' (a := a) (b := b) (by omega)
  have g1 := gcd_le' (a := a) (b := b) (by omega)
  have e : ∀ i, binD .fdiv (.int i) (.int (0 - (Int.gcd a b : Int))) = some (.int (i.fdiv (0 - (Int.gcd a b : Int)))) := fun i => b_divN (by omega) (by omega)
  have l := fun X s x y => low_loop X s x y _ a.natAbs b.natAbs (Nat.le_refl _)
  rw [show Nat.gcd a.natAbs b.natAbs = Int.gcd a b from rfl] at l
  simp only [F_law_low, EVa, EVb, EVc, EVd, EVn, l, decide_eq_false (show ¬ 0 < b by omega), e]
  unfold fr
  have q : (a : Rat) / (b : Rat) = ((-a : Int) : Rat) / ((-b : Int) : Rat) := by
    rw [← Rat.divInt_eq_div, ← Rat.divInt_eq_div, Rat.neg_divInt_neg]
  have f : ∀ i : Int, i.fdiv (0 - (Int.gcd a b : Int)) = (-i).fdiv (Int.gcd a b : Int) := fun i => by
    have := Int.neg_fdiv_neg i (-(Int.gcd a b : Int))
    rw [Int.neg_neg] at this
    rw [Int.zero_sub]
    exact this.symm
  have gg : Int.gcd (-a) (-b) = Int.gcd a b := by rw [Int.gcd_neg, Int.neg_gcd]
  rw [q, div_num (show 0 < -b by omega), div_den (show 0 < -b by omega), gg, f, f]
theorem law_less_ok (f : Str) [Has P f F_law_less] (p q : Rat) (hp : Sm p) (hq : Sm q) : call P (n + 6) f [fr p, fr q] s = ok (.bl (decide (p < q))) s := by
  rw [call_has f n _ _ rfl]
  simp only [F_law_less, EVa, EVb, EVc, EVd, EVn, b_mul (nabs p hp) (dabs q hq), b_mul (nabs q hq) (dabs p hp), Rat.lt_iff]
theorem law_dot_ok (f : Str) [Has P f F_law_dot_of] {vs : List Int} {d : Int} (g : Rg vs d) (i : Int) (h : i.natAbs ≤ 2 ^ 101) : call P (n + 6) f [diskD vs d, .int i] s = ok (.int (dotv vs d i)) s := by
  rw [call_has f n _ _ rfl]
  have l0 := g.ne
  have l1 := g.len
  have m0 := Int.emod_nonneg i (show (vs.length : Int) ≠ 0 by omega)
  have m1 := Int.emod_lt_of_pos i (show (0 : Int) < vs.length by omega)
  have q0 := div_abs_le i vs.length (by omega)
  have dd := g.d
  have dm : (d * vs.length).natAbs ≤ 80 := by rw [Int.natAbs_mul]; exact Nat.mul_le_mul dd (show ((vs.length : Int)).natAbs ≤ 8 by omega)
  simp only [F_law_dot_of, diskD, EVa, EVb, EVc, EVd, EVn, List.length_map, b_mod (i := i) (j := (vs.length : Int)) (by omega), b_div (i := i) (j := (vs.length : Int)) (by omega) (by omega), Int.fmod_eq_emod_of_nonneg i (show (0 : Int) ≤ vs.length by omega), Int.fdiv_eq_ediv_of_nonneg i (show (0 : Int) ≤ vs.length by omega), sub_ints m0 m1, b_mul (i := d) (j := (vs.length : Int)) (by omega) (by omega), b_mul (i := d * (vs.length : Int)) (j := i / (vs.length : Int)) (by omega) (by omega)]
  rfl
section
variable [Has P "_law_low" F_law_low]
theorem law_add_ok [Has P "_law_add" F_law_add] (p q : Rat) (hp : Sm p) (hq : Sm q) : call P (n + 12) "_law_add" [fr p, fr q] s = ok (fr (p + q)) s := by
  rw [call_has "_law_add" (n + 6) _ _ rfl]
  have z := den_mul_sm hp hq
  simp only [F_law_add, EVa, EVb, EVc, EVd, EVn, b_mul (nabs p hp) (dabs q hq), b_mul (nabs q hq) (dabs p hp), b_mul (dabs p hp) (dabs q hq)]
  rw [show n + 6 + 5 = (n + 5) + 6 by omega, low_ok _ _ _ _ _ z.1 z.2, add_div]
  simp only [EVa, EVb, EVc, EVd, EVn]
theorem law_sub_ok [Has P "_law_sub" F_law_sub] (p q : Rat) (hp : Sm p) (hq : Sm q) : call P (n + 12) "_law_sub" [fr p, fr q] s = ok (fr (p - q)) s := by
  rw [call_has "_law_sub" (n + 6) _ _ rfl]
  have z := den_mul_sm hp hq
  simp only [F_law_sub, EVa, EVb, EVc, EVd, EVn, b_mul (nabs p hp) (dabs q hq), b_mul (nabs q hq) (dabs p hp), b_mul (dabs p hp) (dabs q hq)]
  rw [show n + 6 + 5 = (n + 5) + 6 by omega, low_ok _ _ _ _ _ z.1 z.2, sub_div]
  simp only [EVa, EVb, EVc, EVd, EVn]
theorem law_to_ok [Has P "_law_dot_of" F_law_dot_of] [Has P "_law_to" F_law_to] {vs : List Int} {d : Int} (g : Rg vs d) (q : Rat) (h : Sm q) : call P (n + 12) "_law_to" [diskD vs d, fr q] s = ok (fr (val vs d q)) s := by
  rw [call_has "_law_to" (n + 6) _ _ rfl]
  have f0 := floor_abs q h
  have d0 := dotv_abs g q.floor (by omega)
  have d1 := dotv_abs g (q.floor + 1) (by omega)
  have e0 := dabs q h
  have e1 := h.n
  have dp := den_pos' q
  have e2 : (q.floor * q.den).natAbs < 2 ^ 200 := by
    rw [Int.natAbs_mul]
    exact Nat.lt_of_lt_of_le (Nat.mul_lt_mul'' f0 (show ((q.den : Int)).natAbs < 2 ^ 60 by have := h.d; omega)) (by decide)
  simp only [F_law_to, EVa, EVb, EVc, EVd, EVn, b_div (i := q.num) dp e0, num_floor]
  rw [show n + 6 + 5 = (n + 5) + 6 by omega, law_dot_ok _ _ _ g q.floor (by omega)]
  simp only [EVa, EVb, EVc, EVd, EVn]
  rw [law_dot_ok _ _ _ g (q.floor + 1) (by omega)]
  simp only [EVa, EVb, EVc, EVd, EVn]
  rw [law_dot_ok _ _ _ g q.floor (by omega)]
  simp only [EVa, EVb, EVc, EVd, EVn, b_mul (i := dotv vs d q.floor) (j := (q.den : Int)) (by omega) e0, b_mul (i := q.floor) (j := (q.den : Int)) (by omega) e0, b_mul (i := dotv vs d (q.floor + 1) - dotv vs d q.floor) (j := q.num - q.floor * q.den) (by omega) (by omega)]
  rw [low_ok _ _ _ _ _ dp e0, val_div]
  simp only [EVa, EVb, EVc, EVd, EVn]
theorem law_on_ok [Has P "_law_on" F_law_on] {m : Nat} (l0 : 0 < m) (l1 : m ≤ 8) (q : Rat) (h : Sm q) : call P (n + 12) "_law_on" [.int m, fr q] s = ok (fr (alk m q)) s := by
  rw [call_has "_law_on" (n + 6) _ _ rfl]
  have z := alk_pos (vs := List.replicate m 0) (by simpa using l0) (by simpa using l1) h
  rw [List.length_replicate] at z
  simp only [F_law_on, EVa, EVb, EVc, EVd, EVn, b_mul (i := (m : Int)) (j := (q.den : Int)) (by omega) (dabs q h), b_mod (i := q.num) (j := m * q.den) (by omega)]
  rw [show n + 6 + 5 = (n + 5) + 6 by omega, low_ok _ _ _ _ _ (den_pos' q) (dabs q h), Int.fmod_eq_emod_of_nonneg q.num (show 0 ≤ m * (q.den : Int) by omega)]
  simp only [EVa, EVb, EVc, EVd, EVn]
  rfl
end
end
end Ev
set_option maxHeartbeats 1000000
/-! PlOrb: points come again. -/
namespace Ev
open PySem
section
variable {α : Type} [DecidableEq α]
def it (f : α → α) : Nat → α → α
  | 0, x => x
  | k + 1, x => f (it f k x)
def walkL (f : α → α) (x : α) (k : Nat) : List α := (List.range k).map fun i => it f i x
theorem walkL_succ (f : α → α) (x : α) (k : Nat) : walkL f x (k + 1) = walkL f x k ++ [it f k x] := by
  unfold walkL
  rw [List.range_succ, List.map_append]
  rfl
theorem walkL_len (f : α → α) (x : α) (k : Nat) : (walkL f x k).length = k := by simp [walkL]
/-- the walk comes again first behind K steps -/
structure Again (f : α → α) (x : α) (K : Nat) : Prop where
  nd : (walkL f x K).Nodup
  mem : it f K x ∈ walkL f x K
theorem again_new {f : α → α} {x : α} {K k : Nat} (h : Again f x K) (hk : k < K) : it f k x ∉ walkL f x k := by
  intro z
  have h1 : (walkL f x (k + 1)).Nodup := by
    have : (walkL f x (k + 1)).Sublist (walkL f x K) := by
      unfold walkL
      exact (List.range_sublist.mpr hk).map _
    exact this.nodup h.nd
  rw [walkL_succ, List.nodup_append] at h1
  exact h1.2.2 _ z _ (by simp) rfl
theorem again_pos {f : α → α} {x : α} {K : Nat} (h : Again f x K) : 0 < K := by
  cases K with
  | zero => have := h.mem; simp [walkL] at this
  | succ k => omega
theorem least_of (p : Nat → Prop) (hp : ∀ k, p k ∨ ¬ p k) : ∀ N, p N → ∃ K, K ≤ N ∧ p K ∧ ∀ j, j < K → ¬ p j := by
  intro N
  induction N using Nat.strongRecOn with
  | _ N ih =>
    intro h
    by_cases z : ∃ j, j < N ∧ p j
    · obtain ⟨j, h1, h2⟩ := z
      obtain ⟨K, k1, k2, k3⟩ := ih j h1 h2
      exact ⟨K, by omega, k2, k3⟩
    · exact ⟨N, Nat.le_refl N, h, fun j hj hpj => z ⟨j, hj, hpj⟩⟩
theorem walk_nodup {f : α → α} {x : α} : ∀ {K : Nat}, (∀ j, j < K → it f j x ∉ walkL f x j) → (walkL f x K).Nodup
  | 0, _ => by simp [walkL]
  | K + 1, h => by
    rw [walkL_succ, List.nodup_append]
    exact ⟨walk_nodup fun j hj => h j (by omega), by simp, fun a ha b hb e => by simp at hb; subst hb; subst e; exact h K (by omega) ha⟩
theorem again_of {f : α → α} {x : α} (S : List α) (hS : ∀ k, it f k x ∈ S) : ∃ K, K ≤ S.length ∧ Again f x K := by
  by_cases z : ∃ j, j ≤ S.length ∧ it f j x ∈ walkL f x j
  · obtain ⟨j, h1, h2⟩ := z
    obtain ⟨K, k1, k2, k3⟩ := least_of (fun k => it f k x ∈ walkL f x k) (fun k => Classical.em _) j h2
    exact ⟨K, by omega, walk_nodup k3, k2⟩
  · exfalso
    have h1 : (walkL f x (S.length + 1)).Nodup := walk_nodup fun j hj h => z ⟨j, by omega, h⟩
    have h2 := h1.length_le_of_subset (l₂ := S) (by
      intro a ha
      unfold walkL at ha
      obtain ⟨i, _, rfl⟩ := List.mem_map.mp ha
      exact hS i)
    rw [walkL_len] at h2
    omega
end
def step2 (vs : List Int) (d : Int) (p : Rat × Rat) : Rat × Rat := (alk vs.length (val vs d p.1), alk vs.length (val vs d p.2))
def pr (p : Rat × Rat) : D := .tup [fr p.1, fr p.2]
theorem enc_pr : Enc pr 2 := enc_pair enc_fr enc_fr
theorem key_pr : Key pr := key_pair
/-- points on a grid, on the ring -/
structure Pt (n m : Nat) (q : Rat) : Prop where
  lo : 0 ≤ q
  hi : q < n
  gr : Gr m q
theorem Pt.alk {n m : Nat} {q : Rat} (hn : 0 < n) (h : Gr m q) : Pt n m (alk n q) := ⟨alk_nonneg hn q, alk_lt hn q, h.alk⟩
theorem Pt.sm {n m : Nat} {q : Rat} (h : Pt n m q) (hn : n ≤ 8) (hm : 0 < m) (h2 : m < 2 ^ 20) : Sm q := by
  have hn' : ((n : Nat) : Rat) ≤ ((8 : Nat) : Rat) := by exact_mod_cast hn
  have h8 : ((8 : Nat) : Rat) = 8 := rfl
  have h1 := h.lo
  have h3 := h.hi
  exact sm_of (B := 8) ⟨by grind, by grind⟩ h.gr hm (by omega) (by omega)
def grid (n m : Nat) : List Rat := (List.range (n * m)).map fun (i : Nat) => ((i : Nat) : Rat) / ((m : Nat) : Rat)
theorem Pt.grid {n m : Nat} {q : Rat} (hm : 0 < m) (h : Pt n m q) : q ∈ grid n m := by
  obtain ⟨k, e⟩ := h.gr
  have m0 : (0 : Rat) < (m : Rat) := by exact_mod_cast hm
  have h1 : (0 : Rat) ≤ (k : Rat) := by rw [← e]; exact Rat.mul_nonneg h.lo (by grind)
  have h2 : (k : Rat) < (n : Rat) * (m : Rat) := by rw [← e]; exact (Rat.mul_lt_mul_right m0).mpr h.hi
  have h3 : 0 ≤ k := Rat.intCast_nonneg.mp h1
  have h4 : k < (n * m : Nat) := by
    apply Rat.intCast_lt_intCast.mp
    have : (((n * m : Nat) : Int) : Rat) = (n : Rat) * (m : Rat) := by
      show (((n * m : Nat)) : Rat) = _
      exact Rat.natCast_mul n m
    rw [this]; exact h2
  unfold Ev.grid
  rw [List.mem_map]
  refine ⟨k.toNat, by rw [List.mem_range]; omega, ?_⟩
  have h5 : ((k.toNat : Nat) : Rat) = (k : Rat) := by
    have : ((k.toNat : Int) : Rat) = (k : Rat) := by rw [Int.toNat_of_nonneg h3]
    exact this
  rw [h5, ← e, Rat.mul_div_cancel (by grind)]
theorem grid_len (n m : Nat) : (grid n m).length = n * m := by simp [grid]
section
variable {vs : List Int} {d : Int} {m1 m2 : Nat} {p q : Rat}
theorem step_pt {x : Rat × Rat} (hn : 0 < vs.length) (h1 : Pt vs.length m1 x.1) (h2 : Pt vs.length m2 x.2) : ∀ k, Pt vs.length m1 (it (step2 vs d) k x).1 ∧ Pt vs.length m2 (it (step2 vs d) k x).2
  | 0 => ⟨h1, h2⟩
  | k + 1 => by
    obtain ⟨z1, z2⟩ := step_pt hn h1 h2 k
    exact ⟨Pt.alk hn (z1.gr.val vs d), Pt.alk hn (z2.gr.val vs d)⟩
def prods (l r : List Rat) : List (Rat × Rat) := l.flatMap fun a => r.map fun b => (a, b)
theorem prods_len (l r : List Rat) : (prods l r).length = l.length * r.length := by
  unfold prods
  induction l with
  | nil => simp
  | cons a l ih => rw [List.flatMap_cons, List.length_append, ih, List.length_map, List.length_cons, Nat.add_mul]; omega
theorem mem_prods {l r : List Rat} {a b : Rat} (h1 : a ∈ l) (h2 : b ∈ r) : (a, b) ∈ prods l r := by
  unfold prods
  rw [List.mem_flatMap]
  exact ⟨a, h1, List.mem_map.mpr ⟨b, h2, rfl⟩⟩
theorem pair_again (hn : 0 < vs.length) (k1 : 0 < m1) (k2 : 0 < m2) (h1 : Pt vs.length m1 p) (h2 : Pt vs.length m2 q) : ∃ K, K ≤ vs.length * m1 * (vs.length * m2) ∧ Again (step2 vs d) (p, q) K := by
  obtain ⟨K, h, a⟩ := again_of (f := step2 vs d) (x := (p, q)) (prods (grid vs.length m1) (grid vs.length m2)) (fun k => by
    obtain ⟨z1, z2⟩ := step_pt (d := d) (x := (p, q)) hn h1 h2 k
    exact mem_prods (z1.grid k1) (z2.grid k2))
  rw [prods_len, grid_len, grid_len] at h
  exact ⟨K, h, a⟩
theorem same_it : ∀ k, (it (step2 vs d) k (p, p)).1 = (it (step2 vs d) k (p, p)).2
  | 0 => rfl
  | k + 1 => by
    show alk _ (val _ _ (it (step2 vs d) k (p, p)).1) = alk _ (val _ _ (it (step2 vs d) k (p, p)).2)
    rw [same_it k]
theorem same_again (hn : 0 < vs.length) (k1 : 0 < m1) (h1 : Pt vs.length m1 p) : ∃ K, K ≤ vs.length * m1 ∧ Again (step2 vs d) (p, p) K := by
  obtain ⟨K, h, a⟩ := again_of (f := step2 vs d) (x := (p, p)) ((grid vs.length m1).map fun a => (a, a)) (fun k => by
    obtain ⟨z1, z2⟩ := step_pt (d := d) (x := (p, p)) hn h1 h1 k
    rw [List.mem_map]
    exact ⟨_, z1.grid k1, Prod.ext rfl (same_it k)⟩)
  rw [List.length_map, grid_len] at h
  exact ⟨K, h, a⟩
end
end Ev
set_option maxHeartbeats 1000000
/-! PlNew: a ring made; equal kind by kind. -/
namespace Ev
open PySem
theorem call_run {P : Pg} {f : Str} {fn : Fn} (n : Nat) (h1 : P.prim f = none) (h2 : P.fns f = some fn) (h3 : P.nwL ≤ n) (ds : List D) (s : St) (hl : ds.length = fn.par) : call P (n + 1) f ds s = bnd (evSs (cfOf P n) fn.body (startE fn.slots ds) s) finK := by
  rw [call_succ]
  unfold lvl
  simp only [h1, h2]
  rw [if_pos h3]
  unfold runFn
  rw [if_pos hl]
  rfl
theorem p1_int (i : Int) (s : St) : call P1 2 "is_integer" [.int i] s = ok (.bl true) s := by
  rw [call_run (P := P1) (fn := F_isint) 1 rfl rfl (Nat.zero_le 1) _ _ rfl]
  simp only [F_isint, EVa, EVb, EVc, EVd, EVn, i_int (thing_int i), i_bool (thing_int i), o_map, isInt, isBl, Bool.or_false, Bool.not_false]
theorem p1_bet (i lo hi : Int) (h1 : lo ≤ i) (h2 : i ≤ hi) (s : St) : call P1 3 "is_between" [.int i, .int lo, .int hi] s = ok (.bl true) s := by
  rw [call_run (P := P1) (fn := F_isbet) 2 rfl rfl (Nat.zero_le 2) _ _ rfl]
  simp only [F_isbet, EVa, EVb, EVc, EVd, EVn, p1_int, decide_eq_true h1, decide_eq_true h2]
theorem g_1 : P1.gl "LEAST_DOTS" = some (.int 2) := rfl
theorem g_2 : P1.gl "MOST_DOTS" = some (.int 8) := rfl
theorem g_3 : P1.gl "MOST_VALUE" = some (.int 60) := rfl
theorem g_4 : P1.gl "MOST_DEGREE" = some (.int 4) := rfl
/-- rings that may be made -/
structure Rok (vs : List Int) (d : Int) : Prop where
  two : 2 ≤ vs.length
  len : vs.length ≤ 8
  v : ∀ v ∈ vs, -60 ≤ v ∧ v ≤ 60
  d : -4 ≤ d ∧ d ≤ 4
theorem Rok.rg {vs : List Int} {d : Int} (h : Rok vs d) : Rg vs d := ⟨by have := h.two; omega, h.len, fun v hv => by have := h.v v hv; omega, by have := h.d; omega⟩
def B_rf : List S := [.iff (.not (.e (.call "is_between" [(.var 4), (.neg (.glob "MOST_VALUE")), (.glob "MOST_VALUE")]))) [.never] []]
theorem ring_for (a b c : Sl) : ∀ (vs : List Int) (k : Nat) (u v : Sl), (∀ v ∈ vs, -60 ≤ v ∧ v ≤ 60) → isOwn u = false → isOwn v = false → ∃ u' v', isOwn u' = false ∧ isOwn v' = false ∧ forGo (forK (cfOf P1 3) (.tup [.one 3, .one 4]) B_rf) ((vs.zipIdx k).map fun p => .tup [.int (p.2 : Nat), .int p.1]) [a, b, c, u, v] none = ok (.nx [a, b, c, u', v']) none
  | [], k, u, v, _, h1, h2 => ⟨u, v, h1, h2, rfl⟩
  | x :: vs, k, u, v, h, h1, h2 => by
    obtain ⟨u', v', k1, k2, e⟩ := ring_for a b c vs (k + 1) (.v (.int (k : Nat))) (.v (.int x)) (fun y hy => h y (by simp [hy])) rfl rfl
    refine ⟨u', v', k1, k2, ?_⟩
    obtain ⟨x1, x2⟩ := h x (by simp)
    rw [List.zipIdx_cons, List.map_cons]
    simp only [EVf, EVa, EVb, EVc, EVd, EVn, B_rf, g_3, p1_bet x (-60) 60 x1 x2, Bool.not_true]
    exact e
theorem intsD_int (l : List Int) : intsD (l.map .int) = some l := by
  induction l with
  | nil => rfl
  | cons a l ih => show (intsD (l.map .int)).map (a :: ·) = _; rw [ih]; rfl
theorem ringR_ok {vs : List Int} {d : Int} (h : Rok vs d) : ringR [.tup (vs.map .int), .int d] = some (ringD vs d) := by
  have h2 := h.two
  have h3 := h.len
  obtain ⟨u', v', k1, k2, e⟩ := ring_for (.v .hand) (.v (.tup (vs.map .int))) (.v (.int d)) vs 0 .no .no h.v rfl rfl
  have ev : evSs (cfOf P1 3) S_ring (startE 5 [.hand, .tup (vs.map .int), .int d]) none = some (.ok (.nx [.v .hand, .v (.tup (vs.map .int)), .v (.int d), u', v']), none) := by
    have en : enD (vs.map D.int) = (vs.zipIdx 0).map fun p => .tup [.int (p.2 : Nat), .int p.1] := by
      unfold enD
      rw [List.mapIdx_eq_zipIdx_map, List.zipIdx_map, List.map_map]
      rfl
    simp only [S_ring, EVf, EVa, EVb, EVc, EVd, EVn, i_tup (thing_tup _), o_map, isTup, Bool.not_true, g_1, g_2, g_3, g_4, List.length_map, decide_eq_true (show (2 : Int) ≤ vs.length by omega), decide_eq_true (show (vs.length : Int) ≤ 8 by omega), en]
    simp only [B_rf] at e
    rw [e]
    simp only [EVf, EVa, EVb, EVc, EVd, EVn, g_4, p1_bet d (-4) 4 h.d.1 h.d.2, Bool.not_true]
    rfl
  unfold ringR
  simp only [intsD_int, ev]
  have z : List.map isOwn [Sl.v .hand, Sl.v (.tup (vs.map .int)), Sl.v (.int d), u', v'] = [false, false, false, false, false] := by
    simp only [List.map_cons, List.map_nil, k1, k2]
    rfl
  rw [if_pos z]
  simp only [EVd, intsD_int]
  rfl
class RingNew (P : Pg) : Prop where
  nw : ∀ ds, P.nw "Ring" ds = ringR ds
theorem new_ok {P : Pg} [h : RingNew P] {vs : List Int} {d : Int} (r : Rok vs d) : P.nw "Ring" [.tup (vs.map .int), .int d] = some (ringD vs d) := by rw [h.nw, ringR_ok r]
/-! ### equal kind by kind -/
def F_law_is : Fn := ⟨2, 4, [.iff (.e (.isi (.var 1) ["tuple", "list"])) [.iff (.any [(.e (.cmp .ne (.isi (.var 0) ["tuple"]) (.isi (.var 1) ["tuple"]))), (.not (.e (.isi (.var 0) ["tuple", "list"])))]) [.ret (.bl false)] [], .ret (.andv [(.cmp .eq (.blt .len [(.var 0)]) (.blt .len [(.var 1)])), (.blt .all [(.comp [2, 3] (.tup [(.one 2), (.one 3)]) (.zip (.var 0) (.var 1)) none (.call "_law_is" [(.var 2), (.var 3)]))])])] [], .iff (.any [(.e (.cmp .is (.var 1) .non)), (.e (.isi (.var 1) ["bool"]))]) [.ret (.ite (.e (.cmp .is (.var 1) .non)) (.cmp .is (.var 0) .non) (.andv [(.isi (.var 0) ["bool"]), (.cmp .eq (.blt .repr [(.var 0)]) (.blt .repr [(.var 1)]))]))] [], .iff (.e (.isi (.var 1) ["str"])) [.ret (.andv [(.isi (.var 0) ["str"]), (.cmp .eq (.blt .repr [(.var 0)]) (.blt .repr [(.var 1)]))])] [], .ret (.andv [(.isi (.var 0) ["int"]), (.notv (.isi (.var 0) ["bool"])), (.cmp .eq (.blt .repr [(.var 0)]) (.blt .repr [(.var 1)]))])]⟩
/-- whole numbers, None, lists and tuples of such -/
def Plnd : Nat → D → Prop
  | _, .non => True
  | _, .int i => i.natAbs < 2 ^ 250
  | k + 1, .tup ds => ds.length ≤ 1000000 ∧ ∀ x ∈ ds, Plnd k x
  | k + 1, .lst ds => ds.length ≤ 1000000 ∧ ∀ x ∈ ds, Plnd k x
  | _, _ => False
theorem strOk_of (x : String) : PyData.strOk (Str.ofString x) = true := by
  rw [Str.ofString_eq_toList]
  unfold PyData.strOk
  rw [Array.all_eq_true']
  intro c hc
  simp at hc
  obtain ⟨a, _, rfl⟩ := hc
  have h := a.valid
  simp
  have := Char.toNat
  rcases h with h | h
  · have : a.toNat < 0xd800 := h
    omega
  · exact h.2
theorem repr_int {i : Int} (h : i.natAbs < 2 ^ 250) : bltD .repr [.int i] = some (.str (Str.ofString (toString i))) := by
  show guardD (decide (i.natAbs.log2 < 1920)) _ = _
  unfold guardD
  rw [if_pos (decide_eq_true (by have := log_lt' h (by decide); omega))]
theorem eq_str (x : String) : cmpD .eq (.str (Str.ofString x)) (.str (Str.ofString x)) = some (.bl true) := enc_str.eq_t (a := ⟨_, strOk_of x⟩) (b := ⟨_, strOk_of x⟩) (by decide) rfl
section
variable {P : Pg} [Low P] (s : St) [Has P "_law_is" F_law_is]
theorem zip_self' : ∀ ds : List D, ds.zip ds = ds.map fun x => (x, x)
  | [] => rfl
  | a :: l => by rw [List.zip_cons_cons, List.map_cons, zip_self' l]
theorem law_is_seq (k n : Nat) (ds : List D) (hl : ds.length ≤ 1000000) (ih : ∀ x ∈ ds, call P (n + 5) "_law_is" [x, x] s = ok (.bl true) s) (w : D) (hw : w = .tup ds ∨ w = .lst ds) : call P (n + 6) "_law_is" [w, w] s = ok (.bl true) s := by
  rw [call_has "_law_is" n _ _ rfl]
  have th : Thing w := by rcases hw with rfl | rfl <;> trivial
  have t1 : (isTup w || isLst w) = true := by rcases hw with rfl | rfl <;> rfl
  have t2 : cmpD .ne (.bl (isTup w)) (.bl (isTup w)) = some (.bl false) := enc_bl.ne_f (by decide) rfl
  have t3 : bltD .len [w] = some (.int ds.length) := by rcases hw with rfl | rfl <;> rfl
  have t4 : ∀ s, zipK2 w w s = ok (zipD ds ds) s := fun s => by rcases hw with rfl | rfl <;> rfl
  have zz : zipD ds ds = ds.map fun x => .tup [x, x] := by
    unfold zipD
    have : ds.zip ds = ds.map fun x => (x, x) := zip_self' ds
    rw [this, List.map_map]
    rfl
  simp only [F_law_is, EVa, EVb, EVc, EVd, EVn, i_tl th, i_tup th, o_map, t1, t2, t3, t4, Bool.not_true, zz]
  rw [if_lim (by rw [List.length_map]; omega), mapGo_map (e := fun x : D => .tup [x, x]) (g := fun _ => .bl true) (by
    intro x hx
    simp only [EVa, EVb, EVc, EVd, EVn, ih x hx])]
  have : ds.map (fun _ => D.bl true) = (ds.map fun _ => true).map .bl := by rw [List.map_map]; rfl
  simp only [EVa, EVb, EVc, EVd, EVn, this, all_bl]
  congr 2
  rw [List.all_eq_true]
  intro b hb
  obtain ⟨_, _, rfl⟩ := List.mem_map.mp hb
  rfl
theorem law_is_non (n : Nat) : call P (n + 6) "_law_is" [.non, .non] s = ok (.bl true) s := by
  rw [call_has "_law_is" n _ _ rfl]
  have th : Thing .non := trivial
  have c : cmpD .is .non .non = some (.bl true) := rfl
  simp only [F_law_is, EVa, EVb, EVc, EVd, EVn, i_tl th, o_map, isTup, isLst, Bool.or_false, c]
theorem law_is_int (n : Nat) {i : Int} (h : i.natAbs < 2 ^ 250) : call P (n + 6) "_law_is" [.int i, .int i] s = ok (.bl true) s := by
  rw [call_has "_law_is" n _ _ rfl]
  have th : Thing (.int i) := trivial
  have c : cmpD .is (.int i) .non = some (.bl false) := rfl
  simp only [F_law_is, EVa, EVb, EVc, EVd, EVn, i_tl th, i_bool th, i_int th, i_str th, o_map, isTup, isLst, isBl, isStr, isInt, Bool.or_false, c, Bool.not_false, repr_int h, eq_str]
theorem law_is_refl : ∀ (k n : Nat) (w : D), Plnd k w → call P (n + 6 + k) "_law_is" [w, w] s = ok (.bl true) s
  | k, n, .non, _ => by rw [show n + 6 + k = (n + k) + 6 by omega]; exact law_is_non s _
  | k, n, .int i, h => by
    rw [show n + 6 + k = (n + k) + 6 by omega]
    exact law_is_int s _ (by cases k <;> exact h)
  | k + 1, n, .tup ds, h => by
    rw [show n + 6 + (k + 1) = (n + k + 1) + 6 by omega]
    exact law_is_seq s k _ ds h.1 (fun x hx => by rw [show n + k + 1 + 5 = n + 6 + k by omega]; exact law_is_refl k n x (h.2 x hx)) _ (.inl rfl)
  | k + 1, n, .lst ds, h => by
    rw [show n + 6 + (k + 1) = (n + k + 1) + 6 by omega]
    exact law_is_seq s k _ ds h.1 (fun x hx => by rw [show n + k + 1 + 5 = n + 6 + k by omega]; exact law_is_refl k n x (h.2 x hx)) _ (.inr rfl)
  | 0, n, .tup _, h => h.elim
  | 0, n, .lst _, h => h.elim
  | 0, n, .bl _, h => h.elim
  | _ + 1, n, .bl _, h => h.elim
  | 0, n, .str _, h => h.elim
  | _ + 1, n, .str _, h => h.elim
  | 0, n, .dct _, h => h.elim
  | _ + 1, n, .dct _, h => h.elim
  | 0, n, .obj _ _, h => h.elim
  | _ + 1, n, .obj _ _, h => h.elim
  | 0, n, .fn _, h => h.elim
  | _ + 1, n, .fn _, h => h.elim
  | 0, n, .hand, h => h.elim
  | _ + 1, n, .hand, h => h.elim
end
theorem plnd_fr {q : Rat} (h : Sm q) : Plnd 1 (fr q) := ⟨by simp, fun x hx => by
  simp at hx
  rcases hx with rfl | rfl
  · exact nabs q h
  · exact dabs q h⟩
end Ev
set_option maxHeartbeats 1000000
/-! Pl87a: two walkers: the program's and the law's account. -/
namespace Ev
open PySem
def F_apart_by : Fn := ⟨3, 5, [.asg 3 (.call "alike_one" [(.var 0), (.call "minus" [(.var 1), (.var 2)])]), .asg 4 (.call "minus" [(.call "whole" [(.attr (.var 0) "many")]), (.var 3)]), .ret (.ite (.e (.call "is_less" [(.var 3), (.var 4)])) (.var 3) (.var 4))]⟩
def T_dist : T := .e (.cmp .notin (.var 3) (.var 5))
def B_dist : List S := [.iff (.e (.cmp .gt (.blt .len [(.var 5)]) (.glob "MOST_STEPS"))) [.never] [], .setI 5 (.var 3) (.bl true), .app 4 (.call "apart_by" [(.var 0), (.sub (.var 3) (.int 0)), (.sub (.var 3) (.int 1))]), .asg 3 (.blt .tuple [(.comp [6] (.one 6) (.seq (.var 3)) none (.call "alike_one" [(.var 0), (.call "value_at" [(.var 0), (.var 6)])]))])]
def F_distances : Fn := ⟨3, 7, [.par [(3, false), (4, true), (5, true)] [(.tup [(.call "alike_one" [(.var 0), (.var 1)]), (.call "alike_one" [(.var 0), (.var 2)])]), (.lst []), .dct0], .loop T_dist B_dist, .frz 4, .ret (.var 4)]⟩
def F_law_near : Fn := ⟨3, 5, [.asg 3 (.call "_law_on" [(.var 0), (.call "_law_sub" [(.var 1), (.var 2)])]), .asg 4 (.call "_law_sub" [(.tup [(.var 0), (.int 1)]), (.var 3)]), .ret (.ite (.e (.call "_law_less" [(.var 4), (.var 3)])) (.var 4) (.var 3))]⟩
def B_pairs : List S := [.app 5 (.var 3), .asg 3 (.tup [(.call "_law_on" [(.var 4), (.call "_law_to" [(.var 0), (.sub (.var 3) (.int 0))])]), (.call "_law_on" [(.var 4), (.call "_law_to" [(.var 0), (.sub (.var 3) (.int 1))])])])]
def F_law_pairs : Fn := ⟨3, 6, [.par [(4, false), (5, true)] [(.blt .len [(.sub (.var 0) (.int 0))]), (.lst [])], .asg 3 (.tup [(.call "_law_on" [(.var 4), (.var 1)]), (.call "_law_on" [(.var 4), (.var 2)])]), .loop T_dist B_pairs, .frz 5, .ret (.var 5)]⟩
def F_law_sorted : Fn := ⟨1, 5, [.asg 1 (.lst []), .for (.one 2) (.seq (.var 0)) [.asg 3 (.blt .len [(.comp [4] (.one 4) (.seq (.var 1)) (some (.e (.call "_law_less" [(.var 4), (.var 2)]))) (.var 4))]), .iff (.any [(.e (.cmp .eq (.var 3) (.blt .len [(.var 1)]))), (.e (.cmp .ne (.sub (.var 1) (.var 3)) (.var 2)))]) [.asg 1 (.bin .add (.bin .add (.slice (.var 1) none (some (.var 3))) (.lst [(.var 2)])) (.slice (.var 1) (some (.var 3)) none))] []], .ret (.var 1)]⟩
/-- the distance around the ring -/
def nearR (n : Nat) (p q : Rat) : Rat := if alk n (p - q) < (n : Rat) - alk n (p - q) then alk n (p - q) else (n : Rat) - alk n (p - q)
theorem nearR_law (n : Nat) (p q : Rat) : nearR n p q = if (n : Rat) - alk n (p - q) < alk n (p - q) then (n : Rat) - alk n (p - q) else alk n (p - q) := by
  unfold nearR
  split <;> split <;> grind
theorem nearR_zero {n : Nat} (hn : 0 < n) {p q : Rat} : nearR n p q = 0 ↔ alk n p = alk n q := by
  rw [← alk_zero hn]
  have h1 := alk_nonneg hn (p - q)
  have h2 := alk_lt hn (p - q)
  unfold nearR
  split <;> grind
theorem nearR_nonneg {n : Nat} (hn : 0 < n) (p q : Rat) : 0 ≤ nearR n p q := by
  have h1 := alk_nonneg hn (p - q)
  have h2 := alk_lt hn (p - q)
  unfold nearR
  split <;> grind
theorem pt_sub {n m : Nat} {p q : Rat} (hp : Pt n m p) (hq : Pt n m q) (hn : n ≤ 8) (hm : 0 < m) (h2 : m < 2 ^ 20) : Sm (p - q) := by
  have hn' : ((n : Nat) : Rat) ≤ ((8 : Nat) : Rat) := by exact_mod_cast hn
  have h8 : ((8 : Nat) : Rat) = 8 := rfl
  have := hp.lo; have := hp.hi; have := hq.lo; have := hq.hi
  exact sm_of (B := 8) ⟨by grind, by grind⟩ (hp.gr.sub hq.gr) hm (by omega) (by omega)
theorem nat_sm {n : Nat} (hn : n ≤ 8) : Sm ((n : Int) : Rat) := ⟨by rw [Rat.num_intCast]; omega, by rw [Rat.den_intCast]; omega⟩
theorem left_sm {n m : Nat} {p : Rat} (hp : Pt n m p) (hn : n ≤ 8) (hm : 0 < m) (h2 : m < 2 ^ 20) : Sm (((n : Int) : Rat) - p) := by
  have hn' : ((n : Nat) : Rat) ≤ ((8 : Nat) : Rat) := by exact_mod_cast hn
  have h8 : ((8 : Nat) : Rat) = 8 := rfl
  have hc : ((n : Int) : Rat) = (n : Rat) := rfl
  have := hp.lo; have := hp.hi
  exact sm_of (B := 8) ⟨by grind, by grind⟩ ((Gr.int m n).sub hp.gr) hm (by omega) (by omega)
theorem near_sm {n m : Nat} {p q : Rat} (hn0 : 0 < n) (hp : Pt n m p) (hq : Pt n m q) (hn : n ≤ 8) (hm : 0 < m) (h2 : m < 2 ^ 20) : Sm (nearR n p q) := by
  have h1 : Pt n m (alk n (p - q)) := Pt.alk hn0 (hp.gr.sub hq.gr)
  unfold nearR
  split
  · exact h1.sm hn hm h2
  · exact left_sm h1 hn hm h2
theorem Pt.inn {n m : Nat} {q : Rat} (h : Pt n m q) (hn : n ≤ 8) : In 8 q := by
  have hn' : ((n : Nat) : Rat) ≤ ((8 : Nat) : Rat) := by exact_mod_cast hn
  have h8 : ((8 : Nat) : Rat) = 8 := rfl
  have h1 := h.lo
  have h3 := h.hi
  exact ⟨by grind, by grind⟩
theorem Pt.val_sm {vs : List Int} {d : Int} {m : Nat} {q : Rat} (h : Pt vs.length m q) (g : Rg vs d) (hm : 0 < m) (h2 : m < 2 ^ 20) : Sm (val vs d q) :=
  sm_of (val_in g.ne g.len g.v g.d (h.inn g.len)) (h.gr.val vs d) hm (by omega) (by omega)
theorem fr_int (i : Int) : D.tup [.int i, .int 1] = fr (i : Rat) := by
  unfold fr
  rw [Rat.num_intCast, Rat.den_intCast]
  rfl
class HasG (P : Pg) (x : Str) (d : outParam D) : Prop where
  gl : P.gl x = some d
section
variable {P : Pg} [Low P] (n : Nat) (s : St) {vs : List Int} {d : Int}
section
variable [RingFl P] [Has P "common_divisor" F_common_divisor] [Has P "fraction" F_fraction] [Has P "minus" F_minus] [Has P "whole" F_whole] [Has P "alike_one" F_alike_one] [Has P "is_less" F_is_less] [Has P "apart_by" F_apart_by]
theorem apart_by_ok (l0 : 0 < vs.length) (l1 : vs.length ≤ 8) {m : Nat} (hm : 0 < m) (h2 : m < 2 ^ 20) {p q : Rat} (hp : Pt vs.length m p) (hq : Pt vs.length m q) : call P (n + 30) "apart_by" [ringD vs d, fr p, fr q] s = ok (fr (nearR vs.length p q)) s := by
  rw [call_has "apart_by" (n + 24) _ _ rfl]
  have u : Pt vs.length m (alk vs.length (p - q)) := Pt.alk l0 (hp.gr.sub hq.gr)
  simp only [F_apart_by, EVa, EVb, EVc, EVd, EVn]
  rw [show n + 24 + 5 = (n + 11) + 18 by omega, minus_ok _ _ _ _ (hp.sm l1 hm h2) (hq.sm l1 hm h2)]
  simp only [EVa, EVb, EVc, EVd, EVn]
  rw [alike_ok _ _ l0 l1 _ (pt_sub hp hq l1 hm h2)]
  simp only [EVa, EVb, EVc, EVd, EVn, a_many]
  rw [show n + 11 + 18 = (n + 23) + 6 by omega, whole_ok]
  simp only [EVa, EVb, EVc, EVd, EVn]
  rw [show n + 23 + 6 = (n + 11) + 18 by omega, minus_ok _ _ _ _ (nat_sm l1) (u.sm l1 hm h2)]
  simp only [EVa, EVb, EVc, EVd, EVn]
  rw [show n + 11 + 18 = (n + 23) + 6 by omega, is_less_ok _ _ _ _ (u.sm l1 hm h2) (left_sm u l1 hm h2)]
  simp only [EVa, EVb, EVc, EVd, EVn]
  unfold nearR
  have hc : ((vs.length : Int) : Rat) = (vs.length : Rat) := rfl
  rw [hc]
  by_cases z : alk vs.length (p - q) < (vs.length : Rat) - alk vs.length (p - q)
  · rw [decide_eq_true z, if_pos z]
    simp only [EVa, EVb, EVc, EVd, EVn]
  · rw [decide_eq_false z, if_neg z]
    simp only [EVa, EVb, EVc, EVd, EVn]
variable [Has P "dot_value" F_dot_value] [Has P "value_at" F_value_at] [HasG P "MOST_STEPS" (.int 3000)] [Has P "distances" F_distances]
def metD (f : Rat × Rat → Rat × Rat) (x : Rat × Rat) (k : Nat) : D := .dct (encD pr ((walkL f x k).map fun a => (a, .bl true)))
def disL (n : Nat) (l : List (Rat × Rat)) : D := .lst (l.map fun a => fr (nearR n a.1 a.2))
theorem dist_loop (g : Rg vs d) {m : Nat} (hm : 0 < m) (h2 : m < 2 ^ 20) {x : Rat × Rat} (h3 : Pt vs.length m x.1) (h4 : Pt vs.length m x.2) {K : Nat} (hK : K ≤ 3000) (ag : Again (step2 vs d) x K) (u v : Sl) : ∀ (j k : Nat), k + j = K → loopGo (cfOf P (n + 40)) T_dist B_dist [.v (ringD vs d), u, v, .v (pr (it (step2 vs d) k x)), .own (disL vs.length (walkL (step2 vs d) x k)), .own (metD (step2 vs d) x k), .no] s = ok (.nx [.v (ringD vs d), u, v, .v (pr (it (step2 vs d) K x)), .own (disL vs.length (walkL (step2 vs d) x K)), .own (metD (step2 vs d) x K), .no]) s
  | 0, k, h => by
    have e : k = K := by omega
    subst e
    refine loop_f (s1 := s) ?_
    have : it (step2 vs d) k x ∈ ((walkL (step2 vs d) x k).map fun a => (a, D.bl true)).map (·.1) := by
      rw [List.map_map]
      simpa using ag.mem
    simp only [T_dist, EVa, EVb, EVc, EVd, EVn, metD, enc_pr.notinD_f key_pr this]
  | j + 1, k, h => by
    have hk : k < K := by omega
    have nw := again_new ag hk
    have nw2 : it (step2 vs d) k x ∉ ((walkL (step2 vs d) x k).map fun a => (a, D.bl true)).map (·.1) := by
      rw [List.map_map]
      simpa using nw
    obtain ⟨p1, p2⟩ := step_pt (d := d) g.ne h3 h4 k
    have en : ∀ l : List (Rat × Rat), (encD pr (l.map fun a => (a, D.bl true))).length = l.length := fun l => by simp [encD]
    rw [loop_t (s1 := s) (s2 := s) (ρ' := [.v (ringD vs d), u, v, .v (pr (it (step2 vs d) (k + 1) x)), .own (disL vs.length (walkL (step2 vs d) x (k + 1))), .own (metD (step2 vs d) x (k + 1)), .no]) ?_ ?_]
    · exact dist_loop g hm h2 h3 h4 hK ag u v j (k + 1) (by omega)
    · simp only [T_dist, EVa, EVb, EVc, EVd, EVn, metD, enc_pr.notinD_t key_pr nw2]
    · simp only [B_dist, EVa, EVb, EVc, EVd, EVn, metD, en, walkL_len, HasG.gl, decide_eq_false (show ¬ (3000 : Int) < (k : Int) by omega)]
      rw [if_pos ⟨key_pr _, by unfold lim; omega⟩, enc_pr.dPut, aPut_new nw2]
      simp only [EVa, EVb, EVc, EVd, EVn, disL, pr]
      rw [show n + 40 = (n + 10) + 30 by omega, apart_by_ok _ _ g.ne g.len hm h2 p1 p2]
      simp only [EVa, EVb, EVc, EVd, EVn, List.length_map, walkL_len]
      rw [if_pos (by unfold lim; omega)]
      simp only [EVa, EVb, EVc, EVd, EVn, it_t]
      have hf : ∀ (ρ : Env) (q : Rat), Pt vs.length m q → ρ.at 0 = .v (ringD vs d) → ρ.at 6 = .no → ρ.length = 7 → compF (cfOf P (n + 10 + 30)) [6] (.one 6) none (.call "alike_one" [(.var 0), (.call "value_at" [(.var 0), (.var 6)])]) ρ (fr q) s = ok (some (fr (alk vs.length (val vs d q)))) s := by
        intro ρ q hq h0 h6 hl
        match ρ, hl with
        | [a, b, c, d1, e, f, g1], _ =>
          have h0 : a = .v (ringD vs d) := h0
          subst h0
          simp only [EVa, EVb, EVc, EVd, EVn]
          rw [show n + 10 + 30 = (n + 22) + 18 by omega, value_ok _ _ g q (hq.sm g.len hm h2)]
          simp only [EVa, EVb, EVc, EVd, EVn]
          rw [alike_ok _ _ g.ne g.len _ (hq.val_sm g hm h2)]
          simp only [EVa, EVb, EVc, EVd, EVn]
      rw [if_lim (by simp), mapGo2 (hf _ _ p1 rfl rfl rfl) (hf _ _ p2 rfl rfl rfl)]
      simp only [EVa, EVb, EVc, EVd, EVn, walkL_succ, List.map_append, List.map_cons, List.map_nil]
      rfl
theorem distances_ok (g : Rg vs d) {m : Nat} (hm : 0 < m) (h2 : m < 2 ^ 20) {p q : Rat} (hp : Sm p) (hq : Sm q) (gp : Gr m p) (gq : Gr m q) {K : Nat} (hK : K ≤ 3000) (ag : Again (step2 vs d) (alk vs.length p, alk vs.length q) K) : call P (n + 41) "distances" [ringD vs d, fr p, fr q] s = ok (disL vs.length (walkL (step2 vs d) (alk vs.length p, alk vs.length q) K)) s := by
  rw [call_has "distances" (n + 35) _ _ rfl]
  simp only [F_distances, EVa, EVb, EVc, EVd, EVn]
  rw [show n + 35 + 5 = (n + 22) + 18 by omega, alike_ok _ _ g.ne g.len _ hp]
  simp only [EVa, EVb, EVc, EVd, EVn]
  rw [alike_ok _ _ g.ne g.len _ hq]
  simp only [EVa, EVb, EVc, EVd, EVn]
  have e := dist_loop (P := P) n s g hm h2 (x := (alk vs.length p, alk vs.length q)) (Pt.alk g.ne gp) (Pt.alk g.ne gq) hK ag (.v (fr p)) (.v (fr q)) K 0 (by omega)
  rw [show n + 22 + 18 = n + 40 by omega]
  have e0 : it (step2 vs d) 0 (alk vs.length p, alk vs.length q) = (alk vs.length p, alk vs.length q) := rfl
  simp only [e0, disL, metD, walkL, List.range_zero, List.map_nil, encD, pr] at e
  rw [e]
  simp only [EVa, EVb, EVc, EVd, EVn, disL, walkL]
end
section
variable [Has P "_law_low" F_law_low] [Has P "_law_sub" F_law_sub] [Has P "_law_on" F_law_on] [Has P "_law_less" F_law_less] [Has P "_law_dot_of" F_law_dot_of] [Has P "_law_to" F_law_to]
theorem law_near_ok [Has P "_law_near" F_law_near] {k : Nat} (l0 : 0 < k) (l1 : k ≤ 8) {m : Nat} (hm : 0 < m) (h2 : m < 2 ^ 20) {p q : Rat} (hp : Pt k m p) (hq : Pt k m q) : call P (n + 24) "_law_near" [.int k, fr p, fr q] s = ok (fr (nearR k p q)) s := by
  rw [call_has "_law_near" (n + 18) _ _ rfl]
  have u : Pt k m (alk k (p - q)) := Pt.alk l0 (hp.gr.sub hq.gr)
  simp only [F_law_near, EVa, EVb, EVc, EVd, EVn]
  rw [show n + 18 + 5 = (n + 11) + 12 by omega, law_sub_ok _ _ _ _ (hp.sm l1 hm h2) (hq.sm l1 hm h2)]
  simp only [EVa, EVb, EVc, EVd, EVn]
  rw [law_on_ok _ _ l0 l1 _ (pt_sub hp hq l1 hm h2)]
  simp only [EVa, EVb, EVc, EVd, EVn]
  simp only [EVa, EVb, EVc, EVd, EVn, fr_int]
  rw [law_sub_ok _ _ _ _ (nat_sm l1) (u.sm l1 hm h2)]
  simp only [EVa, EVb, EVc, EVd, EVn]
  rw [show n + 11 + 12 = (n + 17) + 6 by omega, law_less_ok _ _ _ _ _ (left_sm u l1 hm h2) (u.sm l1 hm h2)]
  simp only [EVa, EVb, EVc, EVd, EVn]
  rw [nearR_law]
  have hc : ((k : Int) : Rat) = (k : Rat) := rfl
  rw [hc]
  by_cases z : (k : Rat) - alk k (p - q) < alk k (p - q)
  · rw [decide_eq_true z, if_pos z]
    simp only [EVa, EVb, EVc, EVd, EVn]
  · rw [decide_eq_false z, if_neg z]
    simp only [EVa, EVb, EVc, EVd, EVn]
theorem pairs_loop (g : Rg vs d) {m : Nat} (hm : 0 < m) (h2 : m < 2 ^ 20) {x : Rat × Rat} (h3 : Pt vs.length m x.1) (h4 : Pt vs.length m x.2) {K : Nat} (hK : K ≤ 3000) (ag : Again (step2 vs d) x K) (u v : Sl) : ∀ (j k : Nat), k + j = K → loopGo (cfOf P (n + 30)) T_dist B_pairs [.v (diskD vs d), u, v, .v (pr (it (step2 vs d) k x)), .v (.int vs.length), .own (.lst ((walkL (step2 vs d) x k).map pr))] s = ok (.nx [.v (diskD vs d), u, v, .v (pr (it (step2 vs d) K x)), .v (.int vs.length), .own (.lst ((walkL (step2 vs d) x K).map pr))]) s
  | 0, k, h => by
    have e : k = K := by omega
    subst e
    refine loop_f (s1 := s) ?_
    simp only [T_dist, EVa, EVb, EVc, EVd, EVn, enc_pr.notin_f (by decide) ag.mem]
  | j + 1, k, h => by
    have hk : k < K := by omega
    have nw := again_new ag hk
    obtain ⟨p1, p2⟩ := step_pt (d := d) g.ne h3 h4 k
    rw [loop_t (s1 := s) (s2 := s) (ρ' := [.v (diskD vs d), u, v, .v (pr (it (step2 vs d) (k + 1) x)), .v (.int vs.length), .own (.lst ((walkL (step2 vs d) x (k + 1)).map pr))]) ?_ ?_]
    · exact pairs_loop g hm h2 h3 h4 hK ag u v j (k + 1) (by omega)
    · simp only [T_dist, EVa, EVb, EVc, EVd, EVn, enc_pr.notin_t (by decide) nw]
    · simp only [B_pairs, EVa, EVb, EVc, EVd, EVn, List.length_map, walkL_len]
      rw [if_pos (by unfold lim; omega)]
      simp only [EVa, EVb, EVc, EVd, EVn, pr]
      rw [show n + 30 = (n + 18) + 12 by omega, law_to_ok _ _ g _ (p1.sm g.len hm h2)]
      simp only [EVa, EVb, EVc, EVd, EVn]
      rw [law_on_ok _ _ g.ne g.len _ (p1.val_sm g hm h2)]
      simp only [EVa, EVb, EVc, EVd, EVn]
      rw [law_to_ok _ _ g _ (p2.sm g.len hm h2)]
      simp only [EVa, EVb, EVc, EVd, EVn]
      rw [law_on_ok _ _ g.ne g.len _ (p2.val_sm g hm h2)]
      simp only [EVa, EVb, EVc, EVd, EVn]
      simp only [EVa, EVb, EVc, EVd, EVn, walkL_succ, List.map_append, List.map_cons, List.map_nil]
      rfl
theorem pairs_ok [Has P "_law_pairs" F_law_pairs] (g : Rg vs d) {m : Nat} (hm : 0 < m) (h2 : m < 2 ^ 20) {p q : Rat} (hp : Sm p) (hq : Sm q) (gp : Gr m p) (gq : Gr m q) {K : Nat} (hK : K ≤ 3000) (ag : Again (step2 vs d) (alk vs.length p, alk vs.length q) K) : call P (n + 31) "_law_pairs" [diskD vs d, fr p, fr q] s = ok (.lst ((walkL (step2 vs d) (alk vs.length p, alk vs.length q) K).map pr)) s := by
  rw [call_has "_law_pairs" (n + 25) _ _ rfl]
  simp only [F_law_pairs, EVa, EVb, EVc, EVd, EVn, diskD, List.length_map]
  rw [show n + 25 + 5 = (n + 18) + 12 by omega, law_on_ok _ _ g.ne g.len _ hp]
  simp only [EVa, EVb, EVc, EVd, EVn]
  rw [law_on_ok _ _ g.ne g.len _ hq]
  simp only [EVa, EVb, EVc, EVd, EVn]
  have e := pairs_loop (P := P) n s g hm h2 (x := (alk vs.length p, alk vs.length q)) (Pt.alk g.ne gp) (Pt.alk g.ne gq) hK ag (.v (fr p)) (.v (fr q)) K 0 (by omega)
  rw [show n + 18 + 12 = n + 30 by omega]
  have e0 : it (step2 vs d) 0 (alk vs.length p, alk vs.length q) = (alk vs.length p, alk vs.length q) := rfl
  have p0 : ∀ a b, pr (a, b) = .tup [fr a, fr b] := fun a b => rfl
  simp only [e0, walkL, List.range_zero, List.map_nil, p0, diskD] at e
  rw [e]
  simp only [EVa, EVb, EVc, EVd, EVn, walkL]
end
/-- the law's sorting -/
theorem ls_for [Has P "_law_less" F_law_less] (sm : D) : ∀ (r l : List Rat) (u v : Sl), (∀ a ∈ r, Sm a) → (∀ a ∈ l, Sm a) → l.Pairwise (· < ·) → r.length + l.length ≤ 1000000 → ∃ u' v', forGo (forK (cfOf P (n + 6)) (.one 2) [.asg 3 (.blt .len [(.comp [4] (.one 4) (.seq (.var 1)) (some (.e (.call "_law_less" [(.var 4), (.var 2)]))) (.var 4))]), .iff (.any [(.e (.cmp .eq (.var 3) (.blt .len [(.var 1)]))), (.e (.cmp .ne (.sub (.var 1) (.var 3)) (.var 2)))]) [.asg 1 (.bin .add (.bin .add (.slice (.var 1) none (some (.var 3))) (.lst [(.var 2)])) (.slice (.var 1) (some (.var 3)) none))] []]) (r.map fr) [.v sm, .v (.lst (l.map fr)), u, v, .no] s = ok (.nx [.v sm, .v (.lst ((r.foldl (fun f q => insU q f) l).map fr)), u', v', .no]) s
  | [], l, u, v, _, _, _, _ => ⟨u, v, rfl⟩
  | q :: r, l, u, v, hr, hl, hs, hb => by
    have hq := hr q (by simp)
    have hb' : r.length + l.length < 1000000 := by simp at hb; omega
    obtain ⟨u', v', h⟩ := ls_for sm r (insU q l) (.v (fr q)) (.v (.int (tw q l : Nat))) (fun a ha => hr a (by simp [ha])) (fun a ha => by rcases mem_insU.mp ha with rfl | ha; exact hq; exact hl a ha) (insU_sorted hs) (by have := insU_len (q := q) l; omega)
    refine ⟨u', v', ?_⟩
    rw [List.map_cons, List.foldl_cons, ← h]
    simp only [EVf, EVa, EVb, EVc, EVd, EVn, it_l]
    rw [if_lim (by simp; omega), mapGo_filter (g := fr) (p := fun a => decide (a < q)) (by
      intro a ha
      simp only [EVf, EVa, EVb, EVc, EVd, EVn, law_less_ok _ _ _ _ _ (hl a ha) hq]
      by_cases z : a < q
      · rw [decide_eq_true z]
        simp only [EVf, EVa, EVb, EVc, EVd, EVn, if_pos]
      · rw [decide_eq_false z]
        simp only [EVf, EVa, EVb, EVc, EVd, EVn]
        rfl)]
    simp only [EVf, EVa, EVb, EVc, EVd, EVn, List.length_map, tw_filter hs]
    have hle := tw_le q l
    by_cases c : tw q l = l.length ∨ l[tw q l]? ≠ some q
    · have e : insU q l = l.take (tw q l) ++ [q] ++ l.drop (tw q l) := by rw [insU_eq, if_pos c]
      have fin : ∀ st : St, evSs (cfOf P (n + 6)) [.asg 1 (.bin .add (.bin .add (.slice (.var 1) none (some (.var 3))) (.lst [(.var 2)])) (.slice (.var 1) (some (.var 3)) none))] [.v sm, .v (.lst (l.map fr)), .v (fr q), .v (.int (tw q l : Nat)), .no] st = ok (.nx [.v sm, .v (.lst ((insU q l).map fr)), .v (fr q), .v (.int (tw q l : Nat)), .no]) st := fun st => by
        simp only [EVa, EVb, EVc, EVd, EVn, slice_to, slice_from]
        rw [add_l (by simp; omega)]
        simp only [EVa, EVb, EVc, EVd, EVn, slice_from]
        rw [add_l (by simp; omega), e]
        simp only [EVa, EVb, EVc, EVd, EVn, List.map_append, List.map_take, List.map_drop, List.map_cons, List.map_nil]
      by_cases c1 : tw q l = l.length
      · rw [decide_eq_true (by omega)]
        simp only [EVa, EVb, EVc, EVd, EVn, fin, EVf]
      · rw [decide_eq_false (by omega)]
        have c2 : tw q l < l.length := by omega
        have g : l[tw q l]? = some l[tw q l] := List.getElem?_eq_getElem c2
        have c3 : l[tw q l] ≠ q := by
          rcases c with c | c
          · exact absurd c c1
          · rw [g] at c; intro z; exact c (by rw [z])
        simp only [EVa, EVb, EVc, EVd, EVn, sub_fr g, enc_fr.ne_t (by decide) c3, fin, EVf]
    · have e : insU q l = l := by rw [insU_eq, if_neg c]
      have c1 : tw q l ≠ l.length := fun z => c (.inl z)
      have c2 : tw q l < l.length := by omega
      have g : l[tw q l]? = some q := by
        by_cases z : l[tw q l]? = some q
        · exact z
        · exact absurd (.inr z) c
      rw [decide_eq_false (by omega), e]
      simp only [EVa, EVb, EVc, EVd, EVn, sub_fr g, enc_fr.ne_f (by decide) (rfl : q = q), EVf]
theorem law_sorted_ok [Has P "_law_less" F_law_less] [Has P "_law_sorted" F_law_sorted] (l : List Rat) (h : ∀ a ∈ l, Sm a) (hb : l.length ≤ 1000000) : call P (n + 7) "_law_sorted" [.lst (l.map fr)] s = ok (.lst ((sortU l).map fr)) s := by
  rw [call_has "_law_sorted" (n + 1) _ _ rfl]
  obtain ⟨u', v', e⟩ := ls_for (P := P) n s (.lst (l.map fr)) l [] .no .no h (by simp) List.Pairwise.nil (by simpa using hb)
  simp only [F_law_sorted, EVa, EVb, EVc, EVd, EVn, gd_lim (show ([] : List D).length ≤ 16000000 by decide), it_l]
  simp only [List.map_nil] at e
  rw [show n + 1 + 5 = n + 6 by omega, e]
  simp only [EVa, EVb, EVc, EVd, EVn]
  rfl
end
end Ev
set_option maxHeartbeats 1000000
/-! Pl87b: walkers in order. -/
namespace Ev
open PySem
def F_raw_order : Fn := ⟨2, 6, [.asg 2 (.dcomp [3, 4] (.tup [(.one 3), (.one 4)]) (.enum (.var 1)) none (.call "alike_one" [(.var 0), (.call "minus" [(.var 4), (.sub (.var 1) (.int 0))])]) (.var 3)), .iff (.e (.cmp .lt (.blt .len [(.var 2)]) (.blt .len [(.var 1)]))) [.ret .non] [], .ret (.blt .tuple [(.comp [5] (.one 5) (.seq (.call "in_order" [(.blt .list [(.var 2)])])) none (.sub (.var 2) (.var 5)))])]⟩
def F_law_order : Fn := ⟨2, 8, [.asg 2 (.call "_law_on" [(.var 0), (.sub (.var 1) (.int 0))]), .asg 3 (.comp [6] (.one 6) (.seq (.var 1)) none (.call "_law_on" [(.var 0), (.call "_law_sub" [(.call "_law_on" [(.var 0), (.var 6)]), (.var 2)])])), .own 4 (.lst []), .for (.one 5) (.seq (.call "_law_sorted" [(.var 3)])) [.ext 4 (.comp [7, 6] (.tup [(.one 7), (.one 6)]) (.enum (.var 3)) (some (.e (.cmp .eq (.var 6) (.var 5)))) (.var 7))], .ret (.blt .tuple [(.var 4)])]⟩
def F_law_are_apart : Fn := ⟨2, 4, [.asg 2 (.comp [3] (.one 3) (.seq (.var 1)) none (.call "_law_on" [(.var 0), (.var 3)])), .ret (.cmp .eq (.blt .lenset [(.var 2)]) (.blt .len [(.var 2)]))]⟩
def gone (n : Nat) (ws : List Rat) : List Rat := ws.map fun p => alk n (p - ws.headD 0)
def ordL (l : List Rat) : List D := (sortU l).map fun g => .int (l.idxOf g : Nat)
theorem enD_map {α : Type} (e : α → D) (l : List α) : enD (l.map e) = l.zipIdx.map fun p => .tup [.int (p.2 : Nat), e p.1] := by
  unfold enD
  rw [List.mapIdx_eq_zipIdx_map, List.zipIdx_map, List.map_map]
  rfl
theorem zipIdx_map2 {α β : Type} (g : α → β) (l : List α) : (l.zipIdx.map fun p => (g p.1, D.int (p.2 : Nat))) = (l.map g).zipIdx.map fun p => (p.1, D.int (p.2 : Nat)) := by
  rw [List.zipIdx_map, List.map_map]
  rfl
theorem aLook_zipK {x : Rat} : ∀ (l : List Rat) (k : Nat), x ∈ l → aLook ((l.zipIdx k).map fun p => (p.1, D.int (p.2 : Nat))) x = some (.int ((k + l.idxOf x : Nat) : Int))
  | [], k, h => by simp at h
  | a :: l, k, h => by
    rw [List.zipIdx_cons, List.map_cons]
    show (if a = x then some (D.int (k : Nat)) else aLook ((l.zipIdx (k + 1)).map fun p => (p.1, D.int (p.2 : Nat))) x) = _
    by_cases q : a = x
    · subst q; simp
    · rw [if_neg q, aLook_zipK l (k + 1) (by simp at h; exact h.resolve_left fun z => q z.symm), List.idxOf_cons, show (a == x) = false by simpa using q]
      simp
      omega
theorem aLook_zip {x : Rat} {l : List Rat} (h : x ∈ l) : aLook (l.zipIdx.map fun p => (p.1, D.int (p.2 : Nat))) x = some (.int (l.idxOf x : Nat)) := by
  rw [aLook_zipK l 0 h, Nat.zero_add]
theorem filt_zipK {x : Rat} : ∀ (l : List Rat) (k : Nat), l.Nodup → x ∈ l → ((l.zipIdx k).filter fun p => decide (p.1 = x)).map (fun p => D.int (p.2 : Nat)) = [.int ((k + l.idxOf x : Nat) : Int)]
  | [], k, _, h => by simp at h
  | a :: l, k, nd, h => by
    rw [List.nodup_cons] at nd
    rw [List.zipIdx_cons, List.filter_cons]
    by_cases q : a = x
    · subst q
      have : ((l.zipIdx (k + 1)).filter fun p => decide (p.1 = a)) = [] := by
        rw [List.filter_eq_nil_iff]
        intro p hp
        have := List.fst_mem_of_mem_zipIdx hp
        simp
        intro z
        exact nd.1 (z ▸ this)
      rw [this]
      simp
    · have hx : x ∈ l := by simp at h; exact h.resolve_left fun z => q z.symm
      have e := filt_zipK l (k + 1) nd.2 hx
      rw [if_neg (by simpa using q), e, List.idxOf_cons, show (a == x) = false by simpa using q]
      simp
      omega
theorem filt_zip {x : Rat} {l : List Rat} (nd : l.Nodup) (h : x ∈ l) : (l.zipIdx.filter fun p => decide (p.1 = x)).map (fun p => D.int (p.2 : Nat)) = [.int (l.idxOf x : Nat)] := by
  have := filt_zipK l 0 nd h
  simpa using this
theorem dist_le : ∀ l : List (List Int), (distL l).length ≤ l.length
  | [] => Nat.le_refl 0
  | a :: r => by
    have := dist_le r
    unfold distL
    split
    · simp; omega
    · simp; omega
theorem dist_nodup : ∀ l : List (List Int), (distL l).length = l.length ↔ l.Nodup
  | [] => by simp [distL]
  | a :: r => by
    have h1 := dist_le r
    have h2 := dist_nodup r
    rw [List.nodup_cons]
    unfold distL
    split
    · rename_i h
      simp [h]
      omega
    · rename_i h
      simp [h, h2]
def fr2 (q : Rat) : List Int := [q.num, q.den]
theorem fr2_inj {p q : Rat} (h : fr2 p = fr2 q) : p = q := by
  unfold fr2 at h
  injection h with h1 h2
  injection h2 with h2 _
  exact Rat.ext h1 (by exact_mod_cast h2)
theorem intsTs_fr : ∀ l : List Rat, intsTs (l.map fr) = some (l.map fr2)
  | [] => rfl
  | a :: l => by
    show (match some [a.num, (a.den : Int)], intsTs (l.map fr) with
      | some a, some b => some (a :: b)
      | _, _ => none) = _
    rw [intsTs_fr l]
    rfl
theorem nodup_fr2 {l : List Rat} : (l.map fr2).Nodup ↔ l.Nodup := by
  induction l with
  | nil => simp
  | cons a l ih =>
    rw [List.map_cons, List.nodup_cons, List.nodup_cons, ih, List.mem_map]
    constructor
    · rintro ⟨h1, h2⟩
      exact ⟨fun z => h1 ⟨a, z, rfl⟩, h2⟩
    · rintro ⟨h1, h2⟩
      exact ⟨fun ⟨b, z, e⟩ => h1 (fr2_inj e ▸ z), h2⟩
theorem lenset_fr {l : List Rat} (h : l.length < 64) : bltD .lenset [.lst (l.map fr)] = some (.int (distL (l.map fr2)).length) := by
  show (if (l.map fr).length < 64 then (intsTs (l.map fr)).map fun ks => D.int (distL ks).length else none) = _
  rw [if_pos (by simpa using h), intsTs_fr]
  rfl
section
variable {P : Pg} [Low P] (n : Nat) (s : St) {vs : List Int} {d : Int}
section
variable [RingFl P] [Has P "common_divisor" F_common_divisor] [Has P "fraction" F_fraction] [Has P "minus" F_minus] [Has P "alike_one" F_alike_one] [Has P "is_less" F_is_less] [Has P "in_order" F_in_order]
theorem raw_order_ok [Has P "raw_order" F_raw_order] (l0 : 0 < vs.length) (l1 : vs.length ≤ 8) {ws : List Rat} (h1 : 0 < ws.length) (h2 : ws.length ≤ 1000) (hs : ∀ p ∈ ws, Sm p) (hd : ∀ p ∈ ws, Sm (p - ws.headD 0)) (ha : ∀ p ∈ ws, Sm (alk vs.length (p - ws.headD 0))) : call P (n + 30) "raw_order" [ringD vs d, .tup (ws.map fr)] s = ok (if (gone vs.length ws).Nodup then .tup (ordL (gone vs.length ws)) else .non) s := by
  rw [call_has "raw_order" (n + 24) _ _ rfl]
  have hd0 : subD (.tup (ws.map fr)) (.int 0) = some (fr (ws.headD 0)) := by
    cases ws with
    | nil => simp at h1
    | cons a r => exact sub_t0 _ _
  have hm0 : ws.headD 0 ∈ ws := by
    cases ws with
    | nil => simp at h1
    | cons a r => simp
  simp only [F_raw_order, EVa, EVb, EVc, EVd, EVn, enD_map]
  rw [if_lim (by simp; omega)]
  have e := dictGo_enc (f := dcompF (cfOf P (n + 24 + 5)) [3, 4] (.tup [(.one 3), (.one 4)]) none (.call "alike_one" [(.var 0), (.call "minus" [(.var 4), (.sub (.var 1) (.int 0))])]) (.var 3) [.v (ringD vs d), .v (.tup (ws.map fr)), .no, .no, .no, .no]) (e := fun p : Rat × Nat => .tup [.int (p.2 : Nat), fr p.1]) (g := fun p => alk vs.length (p.1 - ws.headD 0)) (v := fun p => .int (p.2 : Nat)) (s := s) enc_fr key_fr (l := ws.zipIdx) (acc := []) (by
    intro p hp
    have hp1 := List.fst_mem_of_mem_zipIdx hp
    simp only [EVa, EVb, EVc, EVd, EVn, hd0]
    rw [show n + 24 + 5 = (n + 11) + 18 by omega, minus_ok _ _ _ _ (hs _ hp1) (hs _ hm0)]
    simp only [EVa, EVb, EVc, EVd, EVn]
    rw [alike_ok _ _ l0 l1 _ (hd _ hp1)]
    simp only [EVa, EVb, EVc, EVd, EVn])
  have e' : encD fr ([] : List (Rat × D)) = [] := rfl
  rw [e'] at e
  rw [e]
  have gm : ws.zipIdx.map (fun p => alk vs.length (p.1 - ws.headD 0)) = gone vs.length ws := by
    have : (fun p : Rat × Nat => alk vs.length (p.1 - ws.headD 0)) = (fun p => alk vs.length (p - ws.headD 0)) ∘ Prod.fst := rfl
    rw [this, ← List.map_map, List.zipIdx_map_fst]
    rfl
  have le : ∀ l : List (Rat × D), (encD fr l).length = l.length := fun l => by simp [encD]
  by_cases nd : (gone vs.length ws).Nodup
  · rw [if_pos nd, puts_new (by rw [List.map_nil, List.nil_append, gm]; exact nd)]
    have zz : (ws.zipIdx.map fun p => (alk vs.length (p.1 - ws.headD 0), D.int (p.2 : Nat))) = (gone vs.length ws).zipIdx.map fun p => (p.1, D.int (p.2 : Nat)) := zipIdx_map2 (fun p => alk vs.length (p - ws.headD 0)) ws
    rw [List.nil_append, zz]
    have gl : (gone vs.length ws).length = ws.length := by simp [gone]
    simp only [EVa, EVb, EVc, EVd, EVn, le, List.length_map, List.length_zipIdx, gl, decide_eq_false (Int.lt_irrefl _)]
    have ks : (encD fr ((gone vs.length ws).zipIdx.map fun p => (p.1, D.int (p.2 : Nat)))).map (·.1) = (gone vs.length ws).map fr := by
      unfold encD
      rw [List.map_map, List.map_map]
      have : (((fun x : D × D => x.fst) ∘ (fun p : Rat × D => (fr p.1, p.2))) ∘ fun p : Rat × Nat => (p.1, D.int (p.2 : Nat))) = fr ∘ Prod.fst := rfl
      rw [this, ← List.map_map, List.zipIdx_map_fst]
    rw [ks, show n + 24 + 5 = (n + 22) + 7 by omega, in_order_ok _ _ _ (by
      intro a ha'
      obtain ⟨p, hp, rfl⟩ := List.mem_map.mp ha'
      exact ha p hp) (by omega)]
    simp only [EVa, EVb, EVc, EVd, EVn, it_l]
    have sl : (sortU (gone vs.length ws)).length ≤ 1000 := by
      have := ((sortU_sorted (gone vs.length ws)).imp fun h => Rat.ne_of_lt h : (sortU (gone vs.length ws)).Pairwise (· ≠ ·))
      have := List.Nodup.length_le_of_subset (l₁ := sortU (gone vs.length ws)) (l₂ := gone vs.length ws) this fun a h => mem_sortU.mp h
      omega
    rw [if_lim (by simp; omega), mapGo_map (e := fr) (g := fun g => .int ((gone vs.length ws).idxOf g : Nat)) (by
      intro a ha'
      simp only [EVa, EVb, EVc, EVd, EVn, enc_fr.subD key_fr, aLook_zip (mem_sortU.mp ha')])]
    simp only [EVa, EVb, EVc, EVd, EVn]
    rfl
  · rw [if_neg nd]
    have h3 := puts_old (g := fun p : Rat × Nat => alk vs.length (p.1 - ws.headD 0)) (v := fun p => .int (p.2 : Nat)) (l := ws.zipIdx) (acc := []) (by simp) (by rw [List.map_nil, List.nil_append, gm]; exact nd)
    rw [List.length_zipIdx, List.length_nil] at h3
    simp only [EVa, EVb, EVc, EVd, EVn, le, List.length_map]
    rw [decide_eq_true (by omega)]
    simp only [EVa, EVb, EVc, EVd, EVn]
end
section
variable [Has P "_law_low" F_law_low] [Has P "_law_sub" F_law_sub] [Has P "_law_on" F_law_on] [Has P "_law_less" F_law_less] [Has P "_law_sorted" F_law_sorted]
theorem are_apart_ok [Has P "_law_are_apart" F_law_are_apart] {k : Nat} (l0 : 0 < k) (l1 : k ≤ 8) {ws : List Rat} (h2 : ws.length < 64) (hs : ∀ p ∈ ws, Sm p) (c : D) (hc : c = .tup (ws.map fr) ∨ c = .lst (ws.map fr)) : call P (n + 18) "_law_are_apart" [.int k, c] s = ok (.bl (decide (ws.map (alk k)).Nodup)) s := by
  rw [call_has "_law_are_apart" (n + 12) _ _ rfl]
  have ic : items c = some (ws.map fr) := by rcases hc with rfl | rfl <;> rfl
  simp only [F_law_are_apart, EVa, EVb, EVc, EVd, EVn, ic]
  rw [if_lim (by simp; omega), mapGo_map (e := fr) (g := fun p => fr (alk k p)) (by
    intro a ha
    simp only [EVa, EVb, EVc, EVd, EVn]
    rw [show n + 12 + 5 = (n + 5) + 12 by omega, law_on_ok _ _ l0 l1 _ (hs a ha)]
    simp only [EVa, EVb, EVc, EVd, EVn])]
  have mm : ws.map (fun p => fr (alk k p)) = (ws.map (alk k)).map fr := by rw [List.map_map]; rfl
  simp only [EVa, EVb, EVc, EVd, EVn, mm]
  rw [lenset_fr (by simpa using h2)]
  simp only [EVa, EVb, EVc, EVd, EVn, List.length_map]
  congr 2
  congr 1
  rw [eq_iff_iff, ← nodup_fr2, ← dist_nodup, List.length_map, List.length_map]
  omega
theorem lo_for (c w f gd : D) (G : List Rat) (nd : G.Nodup) (hl : G.length ≤ 1000) : ∀ (r : List Rat) (acc : List D) (u : Sl), (∀ a ∈ r, a ∈ G) → acc.length + r.length ≤ 10000 → ∃ u', forGo (forK (cfOf P n) (.one 5) [.ext 4 (.comp [7, 6] (.tup [(.one 7), (.one 6)]) (.enum (.var 3)) (some (.e (.cmp .eq (.var 6) (.var 5)))) (.var 7))]) (r.map fr) [.v c, .v w, .v f, .v (.lst (G.map fr)), .own (.lst acc), u, .no, .no] s = ok (.nx [.v c, .v w, .v f, .v (.lst (G.map fr)), .own (.lst (acc ++ r.map fun g => .int (G.idxOf g : Nat))), u', .no, .no]) s
  | [], acc, u, _, _ => ⟨u, by simp [for_nil]⟩
  | a :: r, acc, u, h, hb => by
    obtain ⟨u', e⟩ := lo_for c w f gd G nd hl r (acc ++ [.int (G.idxOf a : Nat)]) (.v (fr a)) (fun b hb => h b (by simp [hb])) (by simp at hb ⊢; omega)
    refine ⟨u', ?_⟩
    rw [List.map_cons, List.map_cons]
    rw [List.append_assoc] at e
    rw [show (D.int (G.idxOf a : Nat) :: r.map fun g => D.int (G.idxOf g : Nat)) = [D.int (G.idxOf a : Nat)] ++ r.map fun g => D.int (G.idxOf g : Nat) from rfl, ← e]
    simp only [EVf, EVa, EVb, EVc, EVd, EVn, enD_map]
    rw [if_lim (by simp; omega), mapGo_filter (e := fun p : Rat × Nat => .tup [.int (p.2 : Nat), fr p.1]) (g := fun p => .int (p.2 : Nat)) (p := fun p => decide (p.1 = a)) (by
      intro p hp
      simp only [EVf, EVa, EVb, EVc, EVd, EVn]
      by_cases z : p.1 = a
      · simp only [EVf, EVa, EVb, EVc, EVd, EVn, enc_fr.eq_t (by decide) z, decide_eq_true z, if_pos]
      · simp only [EVf, EVa, EVb, EVc, EVd, EVn, enc_fr.eq_f (by decide) z, decide_eq_false z]
        rfl)]
    simp only [EVf, EVa, EVb, EVc, EVd, EVn, filt_zip nd (h a (by simp))]
    rw [if_lim (by simp at hb ⊢; omega)]
    simp only [EVf, EVa, EVb, EVc, EVd, EVn]
theorem law_order_ok [Has P "_law_order" F_law_order] {k : Nat} (l0 : 0 < k) (l1 : k ≤ 8) {m : Nat} (hm : 0 < m) (hm2 : m < 2 ^ 20) {ws : List Rat} (h1 : 0 < ws.length) (h2 : ws.length ≤ 1000) (hs : ∀ p ∈ ws, Sm p) (hg : ∀ p ∈ ws, Gr m p) (nd : (gone k ws).Nodup) (c : D) (hc : c = .tup (ws.map fr) ∨ c = .lst (ws.map fr)) : call P (n + 18) "_law_order" [.int k, c] s = ok (.tup (ordL (gone k ws))) s := by
  rw [call_has "_law_order" (n + 12) _ _ rfl]
  have ic : items c = some (ws.map fr) := by rcases hc with rfl | rfl <;> rfl
  have hm0 : ws.headD 0 ∈ ws := by
    cases ws with
    | nil => simp at h1
    | cons a r => simp
  have hd0 : subD c (.int 0) = some (fr (ws.headD 0)) := by
    cases ws with
    | nil => simp at h1
    | cons a r => rcases hc with rfl | rfl; exact sub_t0 _ _; exact sub_l0 _ _
  have pa : ∀ p ∈ ws, Pt k m (alk k p) := fun p hp => Pt.alk l0 (hg p hp)
  simp only [F_law_order, EVa, EVb, EVc, EVd, EVn, hd0]
  rw [show n + 12 + 5 = (n + 5) + 12 by omega, law_on_ok _ _ l0 l1 _ (hs _ hm0)]
  simp only [EVa, EVb, EVc, EVd, EVn, ic]
  rw [if_lim (by simp; omega), mapGo_map (e := fr) (g := fun p => fr (alk k (p - ws.headD 0))) (by
    intro a ha
    simp only [EVa, EVb, EVc, EVd, EVn]
    rw [law_on_ok _ _ l0 l1 _ (hs a ha)]
    simp only [EVa, EVb, EVc, EVd, EVn]
    rw [law_sub_ok _ _ _ _ ((pa a ha).sm l1 hm hm2) ((pa _ hm0).sm l1 hm hm2)]
    simp only [EVa, EVb, EVc, EVd, EVn]
    rw [law_on_ok _ _ l0 l1 _ (pt_sub (pa a ha) (pa _ hm0) l1 hm hm2), alk_sub l0]
    simp only [EVa, EVb, EVc, EVd, EVn])]
  have mm : ws.map (fun p => fr (alk k (p - ws.headD 0))) = (gone k ws).map fr := by unfold gone; rw [List.map_map]; rfl
  have gl : (gone k ws).length = ws.length := by simp [gone]
  simp only [EVa, EVb, EVc, EVd, EVn, mm]
  rw [show n + 5 + 12 = (n + 10) + 7 by omega, law_sorted_ok _ _ _ (by
    intro a ha
    obtain ⟨p, hp, rfl⟩ := List.mem_map.mp ha
    exact (Pt.alk l0 ((hg p hp).sub (hg _ hm0)) : Pt k m _).sm l1 hm hm2) (by omega)]
  simp only [EVa, EVb, EVc, EVd, EVn, it_l]
  have sl : (sortU (gone k ws)).length ≤ 1000 := by
    have := ((sortU_sorted (gone k ws)).imp fun h => Rat.ne_of_lt h : (sortU (gone k ws)).Pairwise (· ≠ ·))
    have := List.Nodup.length_le_of_subset (l₁ := sortU (gone k ws)) (l₂ := gone k ws) this fun a h => mem_sortU.mp h
    omega
  obtain ⟨u', e⟩ := lo_for (P := P) (n + 10 + 7) s (.int k) c (fr (alk k (ws.headD 0))) .non (gone k ws) nd (by omega) (sortU (gone k ws)) [] .no (fun a ha => mem_sortU.mp ha) (by simp; omega)
  rw [e]
  simp only [EVa, EVb, EVc, EVd, EVn, List.nil_append]
  rfl
end
end
end Ev
set_option maxHeartbeats 1000000
/-! Pl87c: orders that stay. -/
namespace Ev
open PySem
def natD (i : Nat) : D := .int (i : Nat)
def ordN (l : List Rat) : List Nat := (sortU l).map fun g => l.idxOf g
theorem ordL_eq (l : List Rat) : ordL l = (ordN l).map natD := by
  unfold ordL ordN
  rw [List.map_map]
  rfl
theorem enc_nat : Enc natD 0 := ⟨fun a b => by
  show some ((a : Int) == (b : Int)) = _
  congr 1
  by_cases h : a = b
  · subst h; simp
  · rw [decide_eq_false h]
    have : (a : Int) ≠ b := by omega
    exact beq_eq_false_iff_ne.mpr this, fun a => rfl⟩
theorem enc_ord : Enc (fun l : List Nat => D.tup (l.map natD)) 1 := enc_tup enc_nat
theorem insU_map {φ : Rat → Rat} {q : Rat} : ∀ {l : List Rat}, (∀ a ∈ q :: l, ∀ b ∈ q :: l, a < b → φ a < φ b) → insU (φ q) (l.map φ) = (insU q l).map φ
  | [], _ => rfl
  | a :: r, h => by
    have h1 : ∀ a' ∈ q :: r, ∀ b ∈ q :: r, a' < b → φ a' < φ b := fun x hx y hy => h x (by simp at hx ⊢; rcases hx with hx | hx <;> simp [hx]) y (by simp at hy ⊢; rcases hy with hy | hy <;> simp [hy])
    have h2 := h a (by simp) q (by simp)
    have h3 := h q (by simp) a (by simp)
    rw [List.map_cons]
    unfold insU
    by_cases c : a < q
    · rw [if_pos (h2 c), if_pos c, List.map_cons, insU_map h1]
    · by_cases c2 : a = q
      · subst c2
        have : ¬ φ a < φ a := by grind
        rw [if_neg this, if_pos rfl, if_neg c, if_pos rfl]
        rfl
      · have c3 : q < a := by grind
        have h4 := h3 c3
        rw [if_neg (by grind), if_neg (by grind), if_neg c, if_neg c2]
        rfl
theorem fold_map {φ : Rat → Rat} : ∀ {l f : List Rat}, (∀ a ∈ l ++ f, ∀ b ∈ l ++ f, a < b → φ a < φ b) → (l.map φ).foldl (fun f q => insU q f) (f.map φ) = (l.foldl (fun f q => insU q f) f).map φ
  | [], f, _ => rfl
  | a :: l, f, h => by
    rw [List.map_cons, List.foldl_cons, List.foldl_cons, insU_map (fun x hx y hy => h x (by simp at hx ⊢; rcases hx with hx | hx <;> simp [hx]) y (by simp at hy ⊢; rcases hy with hy | hy <;> simp [hy]))]
    refine fold_map fun x hx y hy => h x ?_ y ?_
    · rw [List.mem_append, mem_insU] at hx
      simp
      grind
    · rw [List.mem_append, mem_insU] at hy
      simp
      grind
theorem idxOf_map {φ : Rat → Rat} {g : Rat} : ∀ {l : List Rat}, (∀ a ∈ l, φ a = φ g → a = g) → (l.map φ).idxOf (φ g) = l.idxOf g
  | [], _ => rfl
  | a :: l, h => by
    rw [List.map_cons, List.idxOf_cons, List.idxOf_cons, idxOf_map fun b hb => h b (by simp [hb])]
    by_cases c : a = g
    · subst c; simp
    · have c2 : φ a ≠ φ g := fun z => c (h a (by simp) z)
      rw [show (a == g) = false by simpa using c, show (φ a == φ g) = false by simpa using c2]
theorem ordN_map {φ : Rat → Rat} {l : List Rat} (h : ∀ a ∈ l, ∀ b ∈ l, a < b → φ a < φ b) : ordN (l.map φ) = ordN l := by
  unfold ordN
  have e : sortU (l.map φ) = (sortU l).map φ := by
    unfold sortU
    exact fold_map (f := []) (by simpa using h)
  rw [e, List.map_map]
  apply List.map_congr_left
  intro g hg
  have hg := mem_sortU.mp hg
  show (l.map φ).idxOf (φ g) = _
  refine idxOf_map fun a ha z => ?_
  have h1 := h a ha g hg
  have h2 := h g hg a ha
  by_cases c : a < g
  · have := h1 c; grind
  · by_cases c2 : g < a
    · have := h2 c2; grind
    · grind
theorem nodup_map_iff {α β γ : Type} {f : α → β} {g : α → γ} : ∀ {l : List α}, (∀ p ∈ l, ∀ q ∈ l, f p = f q ↔ g p = g q) → ((l.map f).Nodup ↔ (l.map g).Nodup)
  | [], _ => by simp
  | a :: l, h => by
    rw [List.map_cons, List.map_cons, List.nodup_cons, List.nodup_cons, nodup_map_iff fun p hp q hq => h p (by simp [hp]) q (by simp [hq]), List.mem_map, List.mem_map]
    have : (∃ x, x ∈ l ∧ f x = f a) ↔ (∃ x, x ∈ l ∧ g x = g a) := by
      constructor
      · rintro ⟨x, h1, h2⟩; exact ⟨x, h1, (h x (by simp [h1]) a (by simp)).mp h2⟩
      · rintro ⟨x, h1, h2⟩; exact ⟨x, h1, (h x (by simp [h1]) a (by simp)).mpr h2⟩
    rw [this]
theorem headD_map {f : Rat → Rat} {ws : List Rat} (h : 0 < ws.length) : (ws.map f).headD 0 = f (ws.headD 0) := by
  cases ws with
  | nil => simp at h
  | cons a r => rfl
theorem gone_nodup {n : Nat} (hn : 0 < n) (ws : List Rat) : (gone n ws).Nodup ↔ (ws.map (alk n)).Nodup := by
  unfold gone
  refine nodup_map_iff fun p hp q hq => ?_
  rw [alk_iff hn, alk_iff hn]
  constructor
  · rintro ⟨k, e⟩; exact ⟨k, by grind⟩
  · rintro ⟨k, e⟩; exact ⟨k, by grind⟩
theorem gone_congr {n : Nat} (hn : 0 < n) {f g : Rat → Rat} {ws : List Rat} (h0 : 0 < ws.length) (h : ∀ w ∈ ws, alk n (f w) = alk n (g w)) : gone n (ws.map f) = gone n (ws.map g) := by
  unfold gone
  rw [headD_map h0, headD_map h0, List.map_map, List.map_map]
  apply List.map_congr_left
  intro w hw
  show alk n (f w - f (ws.headD 0)) = alk n (g w - g (ws.headD 0))
  have h1 : ws.headD 0 ∈ ws := by
    cases ws with
    | nil => simp at h0
    | cons a r => simp
  rw [← alk_sub hn, h w hw, h _ h1, alk_sub hn]
section
variable {vs : List Int} {d : Int}
theorem it_alk (hn : 0 < vs.length) : ∀ (k : Nat) (w : Rat), alk vs.length (it (fun q => val vs d (alk vs.length q)) k w) = alk vs.length (it (val vs d) k w)
  | 0, w => rfl
  | k + 1, w => by
    show alk _ (val vs d (alk _ (it _ k w))) = alk _ (val vs d (it _ k w))
    exact alk_val hn (by rw [alk_alk hn, it_alk hn k w])
/-- a map that goes round once and never turns back -/
structure Ris (vs : List Int) : Prop where
  ne : 0 < vs.length
  up : ∀ i : Int, dotv vs 1 i ≤ dotv vs 1 (i + 1)
theorem dotv_mono (r : Ris vs) {i : Int} : ∀ k : Nat, dotv vs 1 i ≤ dotv vs 1 (i + k)
  | 0 => by simp
  | k + 1 => by
    have h1 := dotv_mono r (i := i) k
    have h2 := r.up (i + k)
    rw [show i + ((k + 1 : Nat) : Int) = i + k + 1 by omega]
    omega
theorem val_mono (r : Ris vs) {p q : Rat} (h : p ≤ q) : val vs 1 p ≤ val vs 1 q := by
  have f1 := Rat.floor_le p
  have f2 := Rat.lt_floor_add_one p
  have f3 := Rat.floor_le q
  have f4 := Rat.lt_floor_add_one q
  have fm := Rat.floor_monotone h
  unfold val
  rw [Rat.intCast_add] at f2 f4
  have one : ((1 : Int) : Rat) = 1 := rfl
  have u1 := r.up p.floor
  have u2 := r.up q.floor
  by_cases c : p.floor = q.floor
  · rw [c] at *
    have : (0 : Rat) ≤ ((dotv vs 1 (q.floor + 1) - dotv vs 1 q.floor : Int) : Rat) := Rat.intCast_nonneg.mpr (by omega)
    generalize ((dotv vs 1 (q.floor + 1) - dotv vs 1 q.floor : Int) : Rat) = s at this ⊢
    have := Rat.mul_le_mul_of_nonneg_left (show p - (q.floor : Rat) ≤ q - q.floor by grind) this
    grind
  · have u3 := dotv_mono r (i := p.floor + 1) (q.floor - (p.floor + 1)).toNat
    rw [show p.floor + 1 + ((q.floor - (p.floor + 1)).toNat : Int) = q.floor by omega] at u3
    generalize dotv vs 1 (p.floor + 1) = b at *
    generalize dotv vs 1 p.floor = a at *
    generalize dotv vs 1 (q.floor + 1) = d' at *
    generalize dotv vs 1 q.floor = c' at *
    have g1 : (a : Rat) ≤ b := Rat.intCast_le_intCast.mpr u1
    have g2 : (b : Rat) ≤ c' := Rat.intCast_le_intCast.mpr u3
    have g3 : (c' : Rat) ≤ d' := Rat.intCast_le_intCast.mpr u2
    rw [Rat.intCast_sub, Rat.intCast_sub]
    have k1 : ((b : Rat) - a) * (p - p.floor) ≤ ((b : Rat) - a) * 1 := Rat.mul_le_mul_of_nonneg_left (by grind) (by grind)
    have k2 : 0 ≤ ((d' : Rat) - c') * (q - q.floor) := Rat.mul_nonneg (by grind) (by grind)
    grind
/-- the order stays while all are apart -/
theorem order_stays (r : Ris vs) {ws : List Rat} (h0 : 0 < ws.length) (h1 : (gone vs.length ws).Nodup) (h2 : (gone vs.length (ws.map (val vs 1))).Nodup) : ordN (gone vs.length (ws.map (val vs 1))) = ordN (gone vs.length ws) := by
  have hn := r.ne
  have n0 : (0 : Rat) < (vs.length : Rat) := by exact_mod_cast hn
  let w0 := ws.headD 0
  have hw0 : w0 ∈ ws := by
    show ws.headD 0 ∈ ws
    cases ws with
    | nil => simp at h0
    | cons a r => simp
  let φ : Rat → Rat := fun g => alk vs.length (val vs 1 (w0 + g) - val vs 1 w0)
  have e : gone vs.length (ws.map (val vs 1)) = (gone vs.length ws).map φ := by
    unfold gone
    rw [headD_map h0, List.map_map, List.map_map]
    apply List.map_congr_left
    intro w hw
    show alk _ (val vs 1 w - val vs 1 w0) = alk _ (val vs 1 (w0 + alk _ (w - w0)) - val vs 1 w0)
    rw [← alk_sub hn, ← alk_sub hn (val vs 1 (w0 + alk _ (w - w0)))]
    congr 2
    refine alk_val hn ?_
    rw [alk_iff hn]
    obtain ⟨k, z⟩ := alk_ex vs.length (w - w0)
    exact ⟨k, by grind⟩
  have inj : ∀ a ∈ gone vs.length ws, ∀ b ∈ gone vs.length ws, φ a = φ b → a = b := by
    rw [e] at h2
    have key : ∀ l : List Rat, (l.map φ).Nodup → ∀ a ∈ l, ∀ b ∈ l, φ a = φ b → a = b := by
      intro l
      induction l with
      | nil => intro _ a ha; simp at ha
      | cons x l ih =>
        intro nd a ha b hb z
        rw [List.map_cons, List.nodup_cons] at nd
        rcases List.mem_cons.mp ha with h1 | h1 <;> rcases List.mem_cons.mp hb with h2 | h2
        · rw [h1, h2]
        · exact absurd (List.mem_map.mpr ⟨b, h2, by rw [← z, h1]⟩) nd.1
        · exact absurd (List.mem_map.mpr ⟨a, h1, by rw [z, h2]⟩) nd.1
        · exact ih nd.2 a h1 b h2 z
    exact key _ h2
  have z0 : (0 : Rat) ∈ gone vs.length ws := by
    unfold gone
    rw [List.mem_map]
    exact ⟨w0, hw0, by
      show alk vs.length (w0 - w0) = 0
      rw [Rat.sub_self]
      exact alk_self (by grind) n0⟩
  have φ0 : φ 0 = 0 := by
    show alk vs.length (val vs 1 (w0 + 0) - val vs 1 w0) = 0
    rw [Rat.add_zero, Rat.sub_self]
    exact alk_self (by grind) n0
  have rng : ∀ a ∈ gone vs.length ws, 0 ≤ a ∧ a < vs.length := by
    intro a ha
    unfold gone at ha
    obtain ⟨w, _, rfl⟩ := List.mem_map.mp ha
    exact ⟨alk_nonneg hn _, alk_lt hn _⟩
  have φe : ∀ a ∈ gone vs.length ws, φ a = val vs 1 (w0 + a) - val vs 1 w0 := by
    intro a ha
    obtain ⟨r1, r2⟩ := rng a ha
    have m1 : val vs 1 w0 ≤ val vs 1 (w0 + a) := val_mono r (by grind)
    have m2 : val vs 1 (w0 + a) ≤ val vs 1 (w0 + ((1 : Int) : Rat) * (vs.length : Rat)) := by
      apply val_mono r
      have : ((1 : Int) : Rat) = 1 := rfl
      rw [this]
      grind
    rw [val_round hn] at m2
    have e1 : (((1 : Int) * 1 : Int) : Rat) = 1 := rfl
    rw [e1] at m2
    by_cases c : val vs 1 (w0 + a) - val vs 1 w0 = vs.length
    · have : φ a = 0 := by
        show alk vs.length (val vs 1 (w0 + a) - val vs 1 w0) = 0
        rw [c]
        refine alk_unique (k := 1) (by grind) n0 ?_
        have : ((1 : Int) : Rat) = 1 := rfl
        rw [this]; grind
      have a0 := inj a ha 0 z0 (by rw [this, φ0])
      subst a0
      rw [this, Rat.add_zero, Rat.sub_self]
    · exact alk_self (by grind) (by grind)
  rw [e]
  refine ordN_map fun a ha b hb h => ?_
  rw [φe a ha, φe b hb]
  have m : val vs 1 (w0 + a) ≤ val vs 1 (w0 + b) := val_mono r (by grind)
  have ne : φ a ≠ φ b := fun z => by have := inj a ha b hb z; grind
  rw [φe a ha, φe b hb] at ne
  grind
/-- walkers behind so many steps -/
def hereK (vs : List Int) (d : Int) (ws : List Rat) (k : Nat) : List Rat := ws.map (it (val vs d) k)
/-- two alike, or another order -/
def tst (vs : List Int) (d : Int) (ws : List Rat) (k : Nat) : Prop := ¬ (gone vs.length (hereK vs d ws k)).Nodup ∨ ordN (gone vs.length (hereK vs d ws k)) ≠ ordN (gone vs.length ws)
open Classical in
noncomputable def fstT (t : Nat → Prop) : Nat → Nat → Option Nat
  | 0, _ => none
  | j + 1, i => if t (i + 1) then some (i + 1) else fstT t j (i + 1)
theorem fstT_some {t : Nat → Prop} {k : Nat} : ∀ {j i : Nat}, fstT t j i = some k → i < k ∧ k ≤ i + j ∧ t k ∧ ∀ l, i < l → l < k → ¬ t l
  | 0, i, h => by cases h
  | j + 1, i, h => by
    unfold fstT at h
    split at h
    · rename_i z
      cases h
      exact ⟨by omega, by omega, z, fun l h1 h2 => by omega⟩
    · rename_i z
      obtain ⟨h1, h2, h3, h4⟩ := fstT_some h
      refine ⟨by omega, by omega, h3, fun l k1 k2 => ?_⟩
      by_cases c : l = i + 1
      · subst c; exact z
      · exact h4 l (by omega) k2
theorem hereK_succ (ws : List Rat) (k : Nat) : hereK vs d ws (k + 1) = (hereK vs d ws k).map (val vs d) := by
  unfold hereK
  rw [List.map_map]
  rfl
/-- on a rising ring the first turn is a meeting -/
theorem turn_meets (r : Ris vs) {ws : List Rat} (h0 : 0 < ws.length) (h1 : (gone vs.length ws).Nodup) {N k : Nat} (h : fstT (tst vs 1 ws) N 0 = some k) : ¬ ((hereK vs 1 ws k).map (alk vs.length)).Nodup := by
  obtain ⟨k0, k1, k2, k3⟩ := fstT_some h
  have base : ∀ j, j < k → (gone vs.length (hereK vs 1 ws j)).Nodup ∧ ordN (gone vs.length (hereK vs 1 ws j)) = ordN (gone vs.length ws) := by
    intro j hj
    cases j with
    | zero =>
      have : hereK vs 1 ws 0 = ws := by
        unfold hereK
        have : (it (val vs 1) 0 : Rat → Rat) = id := rfl
        rw [this, List.map_id]
      rw [this]
      exact ⟨h1, rfl⟩
    | succ j =>
      have := k3 (j + 1) (by omega) hj
      unfold tst at this
      exact ⟨Classical.byContradiction fun z => this (.inl z), Classical.byContradiction fun z => this (.inr z)⟩
  intro nd
  rw [← gone_nodup r.ne] at nd
  rcases k2 with z | z
  · exact z nd
  · apply z
    obtain ⟨j, rfl⟩ : ∃ j, k = j + 1 := ⟨k - 1, by omega⟩
    obtain ⟨b1, b2⟩ := base j (by omega)
    rw [hereK_succ] at nd ⊢
    rw [order_stays r (by simpa [hereK] using h0) b1 nd, b2]
end
end Ev
set_option maxHeartbeats 1000000
/-! Pl87d: the program's answers about walkers. -/
namespace Ev
open PySem
def F_are_walkers : Fn := ⟨2, 3, [.iff (.any [(.not (.e (.isi (.var 1) ["tuple"]))), (.not (.e (.chain .le .le (.int 2) (.blt .len [(.var 1)]) (.glob "MOST_WALKERS"))))]) [.ret (.bl false)] [], .iff (.not (.e (.blt .all [(.comp [2] (.one 2) (.seq (.var 1)) none (.call "is_fraction" [(.var 2)]))]))) [.ret (.bl false)] [], .ret (.cmp .eq (.blt .len [(.dcomp [2] (.one 2) (.seq (.var 1)) none (.call "alike_one" [(.var 0), (.var 2)]) (.bl true))]) (.blt .len [(.var 1)]))]⟩
def F_check_walkers : Fn := ⟨2, 2, [.exp (.call "check_ring" [(.var 0)]), .iff (.not (.e (.call "are_walkers" [(.var 0), (.var 1)]))) [.raise "NoWalkers" none] []]⟩
def F_order_of : Fn := ⟨2, 2, [.exp (.call "check_walkers" [(.var 0), (.var 1)]), .ret (.call "raw_order" [(.var 0), (.var 1)])]⟩
def B_ft : List S := [.asg 5 (.blt .tuple [(.comp [6] (.one 6) (.seq (.var 5)) none (.call "value_at" [(.var 0), (.var 6)]))]), .iff (.e (.cmp .ne (.call "raw_order" [(.var 0), (.var 5)]) (.var 4))) [.ret (.bin .add (.var 3) (.int 1))] []]
def F_first_turn : Fn := ⟨3, 7, [.exp (.call "check_walkers" [(.var 0), (.var 1)]), .iff (.not (.e (.call "is_between" [(.var 2), (.int 1), (.glob "MOST_WALK")]))) [.raise "NoNumber" none] [], .par [(4, false), (5, false)] [(.call "raw_order" [(.var 0), (.var 1)]), (.var 1)], .for (.one 3) (.rng1 (.var 2)) B_ft, .ret .non]⟩
def F_check_points : Fn := ⟨3, 3, [.exp (.call "check_ring" [(.var 0)]), .exp (.call "check_point" [(.var 1)]), .exp (.call "check_point" [(.var 2)])]⟩
def F_meet_after : Fn := ⟨3, 4, [.exp (.call "check_points" [(.var 0), (.var 1), (.var 2)]), .asg 3 (.call "distances" [(.var 0), (.var 1), (.var 2)]), .ret (.ite (.e (.cmp .isin (.tup [(.int 0), (.int 1)]) (.var 3))) (.index (.var 3) (.tup [(.int 0), (.int 1)])) .non)]⟩
def F_nearest : Fn := ⟨3, 3, [.exp (.call "check_points" [(.var 0), (.var 1), (.var 2)]), .ret (.sub (.call "in_order" [(.call "distances" [(.var 0), (.var 1), (.var 2)])]) (.int 0))]⟩
/-- a thing, its two parts things -/
def Pty (d : D) : Prop := Thing d ∧ ∀ a b, d = .tup [a, b] → Thing a ∧ Thing b
theorem pty_fr (q : Rat) : Pty (fr q) := ⟨thing_fr q, fun a b h => by cases h; exact ⟨trivial, trivial⟩⟩
/-- walkers -/
structure Wk (n m : Nat) (ws : List Rat) : Prop where
  two : 2 ≤ ws.length
  len : ws.length ≤ 8
  gr : ∀ w ∈ ws, Gr m w
  inn : ∀ w ∈ ws, In 1000 w
  m0 : 0 < m
  m1 : m < 2 ^ 20
  nd : (ws.map (alk n)).Nodup
theorem Wk.sm {n m : Nat} {ws : List Rat} (h : Wk n m ws) : ∀ w ∈ ws, Sm w := fun w hw => sm_of (h.inn w hw) (h.gr w hw) h.m0 (by have := h.m1; omega) (by have := h.m1; omega)
theorem In.up {B C' : Nat} {q : Rat} (h : In B q) (l : B ≤ C') : In C' q := by
  have : (B : Rat) ≤ (C' : Rat) := by exact_mod_cast l
  exact ⟨by have := h.lo; grind, by have := h.hi; grind⟩
theorem In.sub {B C' : Nat} {p q : Rat} (h : In B p) (g : In C' q) : In (B + C') (p - q) := by
  have e : ((B + C' : Nat) : Rat) = (B : Rat) + C' := Rat.natCast_add B C'
  have := h.lo; have := h.hi; have := g.lo; have := g.hi
  exact ⟨by rw [e]; grind, by rw [e]; grind⟩
def bd (k : Nat) : Nat := 40 ^ k * 1000
theorem bd_succ (k : Nat) : 30 * bd k + 5000 ≤ bd (k + 1) := by
  unfold bd
  have : 0 < 40 ^ k := Nat.pow_pos (by decide)
  rw [Nat.pow_succ]
  omega
theorem bd_le {k l : Nat} (h : k ≤ l) : bd k ≤ bd l := Nat.mul_le_mul_right _ (Nat.pow_le_pow_right (by decide) h)
theorem bd9 {k : Nat} (h : k ≤ 9) : bd k ≤ 2 ^ 58 := Nat.le_trans (bd_le h) (by decide)
section
variable {vs : List Int} {d : Int}
theorem it_in (g : Rg vs d) {w : Rat} (h : In 1000 w) : ∀ k, In (bd k) (it (val vs d) k w)
  | 0 => by
    have : bd 0 = 1000 := rfl
    rw [this]; exact h
  | k + 1 => (val_in g.ne g.len g.v g.d (it_in g h k)).up (bd_succ k)
theorem it_gr {m : Nat} {w : Rat} (h : Gr m w) : ∀ k, Gr m (it (val vs d) k w)
  | 0 => h
  | k + 1 => (it_gr h k).val vs d
/-- walkers on their way -/
structure Hk (m : Nat) (hs : List Rat) : Prop where
  gr : ∀ w ∈ hs, Gr m w
  inn : ∀ w ∈ hs, In (2 ^ 58) w
theorem hereK_ok {n m : Nat} {ws : List Rat} (g : Rg vs d) (h : Wk n m ws) {k : Nat} (hk : k ≤ 9) : Hk m (hereK vs d ws k) := by
  constructor
  · intro w hw
    obtain ⟨u, hu, rfl⟩ := List.mem_map.mp hw
    exact it_gr (h.gr u hu) k
  · intro w hw
    obtain ⟨u, hu, rfl⟩ := List.mem_map.mp hw
    exact (it_in g (h.inn u hu) k).up (bd9 hk)
theorem Hk.sm {m : Nat} {hs : List Rat} (h : Hk m hs) (m0 : 0 < m) (m1 : m < 2 ^ 20) : ∀ w ∈ hs, Sm w := fun w hw => sm_of (h.inn w hw) (h.gr w hw) m0 (by omega) (by omega)
theorem Hk.sm2 {m : Nat} {hs : List Rat} (h : Hk m hs) (h0 : 0 < hs.length) (m0 : 0 < m) (m1 : m < 2 ^ 20) : ∀ w ∈ hs, Sm (w - hs.headD 0) := fun w hw => by
  have h1 : hs.headD 0 ∈ hs := by
    cases hs with
    | nil => simp at h0
    | cons a r => simp
  exact sm_of ((h.inn w hw).sub (h.inn _ h1)) ((h.gr w hw).sub (h.gr _ h1)) m0 (by omega) (by omega)
theorem Hk.sm3 {n m : Nat} {hs : List Rat} (h : Hk m hs) (h0 : 0 < hs.length) (m0 : 0 < m) (m1 : m < 2 ^ 20) (n0 : 0 < n) (n1 : n ≤ 8) : ∀ w ∈ hs, Sm (alk n (w - hs.headD 0)) := fun w hw => by
  have h1 : hs.headD 0 ∈ hs := by
    cases hs with
    | nil => simp at h0
    | cons a r => simp
  exact (Pt.alk n0 ((h.gr w hw).sub (h.gr _ h1)) : Pt n m _).sm n1 m0 m1
theorem Hk.val {m : Nat} {hs : List Rat} (h : Hk m hs) : True := trivial
theorem Wk.hk {n m : Nat} {ws : List Rat} (h : Wk n m ws) : Hk m ws := ⟨h.gr, fun w hw => (h.inn w hw).up (by decide)⟩
end
theorem rng_nat (N : Nat) : rngD 0 N = (List.range' 0 N).map natD := by
  unfold rngD
  rw [show ((N : Int) - 0).toNat = N by omega, List.range_eq_range']
  apply List.map_congr_left
  intro i _
  show D.int (0 + (i : Int)) = D.int (i : Int)
  rw [Int.zero_add]
theorem rng_nat1 (N : Nat) : rngD 1 ((N : Int) + 1) = (List.range' 1 N).map natD := by
  unfold rngD
  have e : (List.range' 0 N).map (1 + ·) = List.range' 1 N := by
    have := List.map_add_range' (a := 1) 0 N 1
    simpa using this
  rw [show ((N : Int) + 1 - 1).toNat = N by omega, List.range_eq_range', ← e, List.map_map]
  apply List.map_congr_left
  intro i _
  show D.int (1 + (i : Int)) = D.int ((1 + i : Nat) : Int)
  congr 1
def optD : Option Nat → D
  | none => .non
  | some k => natD k
section
variable {P : Pg} [Low P] (n : Nat) (s : St) {vs : List Int} {d : Int}
section
variable [Has P "is_integer" F_is_integer] [Has P "common_divisor" F_common_divisor] [Has P "is_fraction" F_is_fraction] [HasG P "MOST_WALKERS" (.int 8)]
section
variable [Has P "are_walkers" F_are_walkers]
theorem are_walkers_no (r : D) {t : D} (h : Thing t) (h2 : isTup t = false) : call P (n + 6) "are_walkers" [r, t] s = ok (.bl false) s := by
  rw [call_has "are_walkers" n _ _ rfl]
  simp only [F_are_walkers, EVa, EVb, EVc, EVd, EVn, i_tup h, o_map, h2, Bool.not_false]
theorem are_walkers_few (r : D) {ds : List D} (h : ds.length < 2 ∨ 8 < ds.length) : call P (n + 6) "are_walkers" [r, .tup ds] s = ok (.bl false) s := by
  rw [call_has "are_walkers" n _ _ rfl]
  simp only [F_are_walkers, EVa, EVb, EVc, EVd, EVn, i_tup (thing_tup _), o_map, isTup, Bool.not_true]
  by_cases z : (2 : Int) ≤ ds.length
  · simp only [decide_eq_true z, EVa, EVb, EVc, EVd, EVn, HasG.gl, decide_eq_false (show ¬ (ds.length : Int) ≤ 8 by omega), Bool.not_false]
  · simp only [decide_eq_false z, EVa, EVb, EVc, EVd, EVn, Bool.not_false]
theorem walkers_all (r t u : Sl) {ds : List D} (hp : ∀ x ∈ ds, Pty x) : mapGo (compF (cfOf P (n + 12)) [2] (.one 2) none (.call "is_fraction" [(.var 2)]) [r, t, u]) ds s = ok ((ds.map isFrac).map .bl) s := by
  have e := mapGo_map (f := compF (cfOf P (n + 12)) [2] (.one 2) none (.call "is_fraction" [(.var 2)]) [r, t, u]) (e := id) (g := fun x => .bl (isFrac x)) (s := s) (l := ds) (by
    intro x hx
    obtain ⟨h1, h2⟩ := hp x hx
    simp only [id, EVa, EVb, EVc, EVd, EVn, is_fraction_ok _ _ h1 h2])
  rw [List.map_id] at e
  rw [e, List.map_map]
  rfl
theorem are_walkers_odd (r : D) {ds : List D} (h : 2 ≤ ds.length ∧ ds.length ≤ 8) (hp : ∀ x ∈ ds, Pty x) (hf : ∃ x ∈ ds, isFrac x = false) : call P (n + 18) "are_walkers" [r, .tup ds] s = ok (.bl false) s := by
  rw [call_has "are_walkers" (n + 12) _ _ rfl]
  simp only [F_are_walkers, EVa, EVb, EVc, EVd, EVn, i_tup (thing_tup _), o_map, isTup, Bool.not_true, HasG.gl, decide_eq_true (show (2 : Int) ≤ ds.length by omega), decide_eq_true (show (ds.length : Int) ≤ 8 by omega), it_t]
  rw [if_lim (by omega), show n + 12 + 5 = (n + 5) + 12 by omega, walkers_all _ _ _ _ _ hp]
  have : (ds.map isFrac).all id = false := by
    obtain ⟨x, hx, h3⟩ := hf
    rw [List.all_eq_false]
    exact ⟨isFrac x, List.mem_map_of_mem hx, by simp [h3]⟩
  simp only [EVa, EVb, EVc, EVd, EVn, all_bl, this, Bool.not_false]
theorem are_walkers_ok [RingFl P] [Has P "fraction" F_fraction] [Has P "alike_one" F_alike_one] (l0 : 0 < vs.length) (l1 : vs.length ≤ 8) {ws : List Rat} (h : 2 ≤ ws.length ∧ ws.length ≤ 8) (hs : ∀ w ∈ ws, Sm w) : call P (n + 24) "are_walkers" [ringD vs d, .tup (ws.map fr)] s = ok (.bl (decide (ws.map (alk vs.length)).Nodup)) s := by
  rw [call_has "are_walkers" (n + 18) _ _ rfl]
  simp only [F_are_walkers, EVa, EVb, EVc, EVd, EVn, i_tup (thing_tup _), o_map, isTup, Bool.not_true, HasG.gl, List.length_map, decide_eq_true (show (2 : Int) ≤ ws.length by omega), decide_eq_true (show (ws.length : Int) ≤ 8 by omega), it_t]
  rw [if_lim (by omega), show n + 18 + 5 = (n + 11) + 12 by omega, walkers_all _ _ _ _ _ (by
    intro x hx
    obtain ⟨w, _, rfl⟩ := List.mem_map.mp hx
    exact pty_fr w)]
  have : ((ws.map fr).map isFrac).all id = true := by
    rw [List.all_eq_true]
    intro b hb
    obtain ⟨x, hx, rfl⟩ := List.mem_map.mp hb
    obtain ⟨w, _, rfl⟩ := List.mem_map.mp hx
    exact isFrac_fr w
  simp only [EVa, EVb, EVc, EVd, EVn, all_bl, this, Bool.not_true, it_t, List.length_map]
  rw [if_lim (by omega)]
  have e := dictGo_enc (f := dcompF (cfOf P (n + 11 + 12)) [2] (.one 2) none (.call "alike_one" [(.var 0), (.var 2)]) (.bl true) [.v (ringD vs d), .v (.tup (ws.map fr)), .no]) (e := fr) (g := fun w => alk vs.length w) (v := fun _ => .bl true) (s := s) enc_fr key_fr (l := ws) (acc := []) (by
    intro w hw
    simp only [EVa, EVb, EVc, EVd, EVn]
    rw [show n + 11 + 12 = (n + 5) + 18 by omega, alike_ok _ _ l0 l1 _ (hs w hw)]
    simp only [EVa, EVb, EVc, EVd, EVn])
  have e' : encD fr ([] : List (Rat × D)) = [] := rfl
  have le : ∀ l : List (Rat × D), (encD fr l).length = l.length := fun l => by simp [encD]
  rw [e'] at e
  rw [e]
  simp only [EVa, EVb, EVc, EVd, EVn, le, List.length_map]
  congr 2
  congr 1
  rw [eq_iff_iff]
  by_cases nd : (ws.map (alk vs.length)).Nodup
  · rw [puts_new (by rw [List.map_nil, List.nil_append]; exact nd)]
    simp [nd]
  · have h3 := puts_old (g := fun w => alk vs.length w) (v := fun _ => .bl true) (l := ws) (acc := []) (by simp) (by rw [List.map_nil, List.nil_append]; exact nd)
    rw [List.length_nil] at h3
    constructor
    · intro z; omega
    · intro z; exact absurd z nd
end
section
variable [Has P "check_ring" F_check_ring] [Has P "check_walkers" F_check_walkers]
theorem check_walkers_ring {r : D} (w : D) (h : Thing r) (h2 : isRing r = false) : call P (n + 12) "check_walkers" [r, w] s = some (.ex ⟨"NoRing", none⟩, s) := by
  rw [call_has "check_walkers" (n + 6) _ _ rfl]
  simp only [F_check_walkers, EVa, EVb, EVc, EVd, EVn]
  rw [show n + 6 + 5 = (n + 5) + 6 by omega, check_ring_ex _ _ h h2]
  simp only [EVa, EVb, EVc, EVd, EVn]
theorem check_walkers_val {w : D} {b : Bool} (h : ∀ n s, call P (n + 24) "are_walkers" [ringD vs d, w] s = ok (.bl b) s) : call P (n + 30) "check_walkers" [ringD vs d, w] s = if b = true then ok .non s else some (.ex ⟨"NoWalkers", none⟩, s) := by
  rw [call_has "check_walkers" (n + 24) _ _ rfl]
  simp only [F_check_walkers, EVa, EVb, EVc, EVd, EVn]
  rw [show n + 24 + 5 = (n + 23) + 6 by omega, check_ring_ok _ _ (thing_ring vs d) (isRing_ring vs d)]
  simp only [EVa, EVb, EVc, EVd, EVn]
  rw [show n + 23 + 6 = (n + 5) + 24 by omega, h]
  cases b
  · simp only [EVa, EVb, EVc, EVd, EVn, Bool.not_false]
    rfl
  · simp only [EVa, EVb, EVc, EVd, EVn, Bool.not_true]
    rfl
end
end
section
variable [Has P "is_integer" F_is_integer] [Has P "common_divisor" F_common_divisor] [Has P "is_fraction" F_is_fraction] [Has P "check_ring" F_check_ring] [Has P "check_point" F_check_point] [Has P "check_points" F_check_points]
theorem check_points_ring {r : D} (p q : D) (h : Thing r) (h2 : isRing r = false) : call P (n + 24) "check_points" [r, p, q] s = some (.ex ⟨"NoRing", none⟩, s) := by
  rw [call_has "check_points" (n + 18) _ _ rfl]
  simp only [F_check_points, EVa, EVb, EVc, EVd, EVn]
  rw [show n + 18 + 5 = (n + 17) + 6 by omega, check_ring_ex _ _ h h2]
  simp only [EVa, EVb, EVc, EVd, EVn]
theorem check_points_one {p : D} (q : D) (h : Pty p) (h2 : isFrac p = false) : call P (n + 24) "check_points" [ringD vs d, p, q] s = some (.ex ⟨"NoPoint", none⟩, s) := by
  rw [call_has "check_points" (n + 18) _ _ rfl]
  simp only [F_check_points, EVa, EVb, EVc, EVd, EVn]
  rw [show n + 18 + 5 = (n + 17) + 6 by omega, check_ring_ok _ _ (thing_ring vs d) (isRing_ring vs d)]
  simp only [EVa, EVb, EVc, EVd, EVn]
  rw [show n + 17 + 6 = (n + 5) + 18 by omega, check_point_ex _ _ h.1 h.2 h2]
  simp only [EVa, EVb, EVc, EVd, EVn]
theorem check_points_two (p : Rat) {q : D} (h : Pty q) (h2 : isFrac q = false) : call P (n + 24) "check_points" [ringD vs d, fr p, q] s = some (.ex ⟨"NoPoint", none⟩, s) := by
  rw [call_has "check_points" (n + 18) _ _ rfl]
  simp only [F_check_points, EVa, EVb, EVc, EVd, EVn]
  rw [show n + 18 + 5 = (n + 17) + 6 by omega, check_ring_ok _ _ (thing_ring vs d) (isRing_ring vs d)]
  simp only [EVa, EVb, EVc, EVd, EVn]
  rw [show n + 17 + 6 = (n + 5) + 18 by omega, check_point_fr]
  simp only [EVa, EVb, EVc, EVd, EVn]
  rw [check_point_ex _ _ h.1 h.2 h2]
  simp only [EVa, EVb, EVc, EVd, EVn]
theorem check_points_ok (p q : Rat) : call P (n + 24) "check_points" [ringD vs d, fr p, fr q] s = ok .non s := by
  rw [call_has "check_points" (n + 18) _ _ rfl]
  simp only [F_check_points, EVa, EVb, EVc, EVd, EVn]
  rw [show n + 18 + 5 = (n + 17) + 6 by omega, check_ring_ok _ _ (thing_ring vs d) (isRing_ring vs d)]
  simp only [EVa, EVb, EVc, EVd, EVn]
  rw [show n + 17 + 6 = (n + 5) + 18 by omega, check_point_fr]
  simp only [EVa, EVb, EVc, EVd, EVn]
  rw [check_point_fr]
  simp only [EVa, EVb, EVc, EVd, EVn]
/-- what ends ahead of all else -/
theorem meet_ex [Has P "meet_after" F_meet_after] {r p q : D} {x : Exc} (h : ∀ n s, call P (n + 24) "check_points" [r, p, q] s = some (.ex x, s)) : call P (n + 30) "meet_after" [r, p, q] s = some (.ex x, s) := by
  rw [call_has "meet_after" (n + 24) _ _ rfl]
  simp only [F_meet_after, EVa, EVb, EVc, EVd, EVn]
  rw [show n + 24 + 5 = (n + 5) + 24 by omega, h]
  simp only [EVa, EVb, EVc, EVd, EVn]
theorem nearest_ex [Has P "nearest" F_nearest] {r p q : D} {x : Exc} (h : ∀ n s, call P (n + 24) "check_points" [r, p, q] s = some (.ex x, s)) : call P (n + 30) "nearest" [r, p, q] s = some (.ex x, s) := by
  rw [call_has "nearest" (n + 24) _ _ rfl]
  simp only [F_nearest, EVa, EVb, EVc, EVd, EVn]
  rw [show n + 24 + 5 = (n + 5) + 24 by omega, h]
  simp only [EVa, EVb, EVc, EVd, EVn]
section
variable [RingFl P] [Has P "fraction" F_fraction] [Has P "minus" F_minus] [Has P "whole" F_whole] [Has P "alike_one" F_alike_one] [Has P "is_less" F_is_less] [Has P "apart_by" F_apart_by] [Has P "dot_value" F_dot_value] [Has P "value_at" F_value_at] [HasG P "MOST_STEPS" (.int 3000)] [Has P "distances" F_distances] [Has P "in_order" F_in_order]
theorem fr_zero : D.tup [.int 0, .int 1] = fr 0 := rfl
def disR (n : Nat) (l : List (Rat × Rat)) : List Rat := l.map fun a => nearR n a.1 a.2
theorem disL_eq (n : Nat) (l : List (Rat × Rat)) : disL n l = .lst ((disR n l).map fr) := by
  unfold disL disR
  rw [List.map_map]
  rfl
theorem meet_after_ok [Has P "meet_after" F_meet_after] (g : Rg vs d) {m : Nat} (hm : 0 < m) (h2 : m < 2 ^ 20) {p q : Rat} (hp : Sm p) (hq : Sm q) (gp : Gr m p) (gq : Gr m q) {K : Nat} (hK : K ≤ 3000) (ag : Again (step2 vs d) (alk vs.length p, alk vs.length q) K) : call P (n + 50) "meet_after" [ringD vs d, fr p, fr q] s = ok (optD (if (0 : Rat) ∈ disR vs.length (walkL (step2 vs d) (alk vs.length p, alk vs.length q) K) then some ((disR vs.length (walkL (step2 vs d) (alk vs.length p, alk vs.length q) K)).idxOf 0) else none)) s := by
  rw [call_has "meet_after" (n + 44) _ _ rfl]
  simp only [F_meet_after, EVa, EVb, EVc, EVd, EVn]
  rw [show n + 44 + 5 = (n + 25) + 24 by omega, check_points_ok]
  simp only [EVa, EVb, EVc, EVd, EVn]
  rw [show n + 25 + 24 = (n + 8) + 41 by omega, distances_ok _ _ g hm h2 hp hq gp gq hK ag, disL_eq]
  simp only [EVa, EVb, EVc, EVd, EVn]
  rw [fr_zero]
  by_cases z : (0 : Rat) ∈ disR vs.length (walkL (step2 vs d) (alk vs.length p, alk vs.length q) K)
  · rw [enc_fr.in_t (by decide) z, if_pos z]
    simp only [EVa, EVb, EVc, EVd, EVn]
    rw [fr_zero]
    simp only [EVa, EVb, EVc, EVd, EVn, enc_fr.indexD (by decide) z]
    rfl
  · rw [enc_fr.in_f (by decide) z, if_neg z]
    simp only [EVa, EVb, EVc, EVd, EVn]
    rfl
theorem nearest_ok [Has P "nearest" F_nearest] (g : Rg vs d) {m : Nat} (hm : 0 < m) (h2 : m < 2 ^ 20) {p q : Rat} (hp : Sm p) (hq : Sm q) (gp : Gr m p) (gq : Gr m q) {K : Nat} (hK : K ≤ 3000) (ag : Again (step2 vs d) (alk vs.length p, alk vs.length q) K) {a : Rat} {r : List Rat} (hs : sortU (disR vs.length (walkL (step2 vs d) (alk vs.length p, alk vs.length q) K)) = a :: r) (hsm : ∀ x ∈ disR vs.length (walkL (step2 vs d) (alk vs.length p, alk vs.length q) K), Sm x) : call P (n + 50) "nearest" [ringD vs d, fr p, fr q] s = ok (fr a) s := by
  rw [call_has "nearest" (n + 44) _ _ rfl]
  simp only [F_nearest, EVa, EVb, EVc, EVd, EVn]
  rw [show n + 44 + 5 = (n + 25) + 24 by omega, check_points_ok]
  simp only [EVa, EVb, EVc, EVd, EVn]
  rw [show n + 25 + 24 = (n + 8) + 41 by omega, distances_ok _ _ g hm h2 hp hq gp gq hK ag, disL_eq]
  simp only [EVa, EVb, EVc, EVd, EVn]
  rw [show n + 8 + 41 = (n + 42) + 7 by omega, in_order_ok _ _ _ hsm (by simp [disR, walkL]; omega), hs]
  simp only [EVa, EVb, EVc, EVd, EVn, List.map_cons]
end
end
end
end Ev
set_option maxHeartbeats 1000000
/-! Pl87e: first turns. -/
namespace Ev
open PySem
def B_lt : List S := [.asg 6 (.comp [7] (.one 7) (.seq (.var 6)) none (.call "_law_to" [(.var 0), (.call "_law_on" [(.var 5), (.var 7)])])), .iff (.any [(.not (.e (.call "_law_are_apart" [(.var 5), (.var 6)]))), (.e (.cmp .ne (.call "_law_order" [(.var 5), (.var 6)]) (.var 3)))]) [.ret (.var 4)] []]
def F_law_turn : Fn := ⟨3, 8, [.par [(5, false), (6, false)] [(.blt .len [(.sub (.var 0) (.int 0))]), (.blt .list [(.var 1)])], .asg 3 (.call "_law_order" [(.var 5), (.var 6)]), .for (.one 4) (.rng2 (.int 1) (.bin .add (.var 2) (.int 1))) B_lt, .ret .non]⟩
def F_law_behind : Fn := ⟨3, 4, [.for (.one 3) (.rng1 (.var 2)) [.asg 1 (.call "_law_to" [(.var 0), (.var 1)])], .ret (.var 1)]⟩
def ordT (l : List Nat) : D := .tup (l.map natD)
theorem enc_ordT : Enc ordT 1 := enc_ord
theorem non_ne_tup (l : List Nat) : cmpD .ne .non (ordT l) = some (.bl true) := by
  show (eqD .non (ordT l)).map (fun b => D.bl (!b)) = _
  have : eqD .non (ordT l) = some false := by
    unfold eqD
    rw [(enc_ordT.le (show 1 ≤ 64 by decide)).pl]
    rfl
  rw [this]
  rfl
theorem rngG_ok {a b : Int} (h1 : -1000000 ≤ a) (h2 : b ≤ 1000000) (h3 : a ≤ 1000000) (h4 : -1000000 ≤ b) : rngG a b = true := by
  unfold rngG lim
  simp
  omega
section
variable {P : Pg} [Low P] (n : Nat) (s : St) {vs : List Int} {d : Int}
section
variable [RingFl P] [Has P "is_integer" F_is_integer] [Has P "is_between" F_is_between] [Has P "common_divisor" F_common_divisor] [Has P "is_fraction" F_is_fraction] [HasG P "MOST_WALKERS" (.int 8)] [HasG P "MOST_WALK" (.int 60)] [Has P "are_walkers" F_are_walkers] [Has P "check_ring" F_check_ring] [Has P "check_walkers" F_check_walkers] [Has P "fraction" F_fraction] [Has P "minus" F_minus] [Has P "alike_one" F_alike_one] [Has P "is_less" F_is_less] [Has P "in_order" F_in_order] [Has P "raw_order" F_raw_order] [Has P "dot_value" F_dot_value] [Has P "value_at" F_value_at]
theorem wk_check {m : Nat} (g : Rg vs d) {ws : List Rat} (h : Wk vs.length m ws) : call P (n + 30) "check_walkers" [ringD vs d, .tup (ws.map fr)] s = ok .non s := by
  rw [check_walkers_val n s (b := true) (fun n s => by rw [are_walkers_ok n s g.ne g.len ⟨h.two, h.len⟩ h.sm, decide_eq_true h.nd])]
  rfl
theorem wk_raw {m : Nat} (g : Rg vs d) (m0 : 0 < m) (m1 : m < 2 ^ 20) {hs : List Rat} (h : Hk m hs) (h0 : 0 < hs.length) (h1 : hs.length ≤ 8) : call P (n + 30) "raw_order" [ringD vs d, .tup (hs.map fr)] s = ok (if (gone vs.length hs).Nodup then ordT (ordN (gone vs.length hs)) else .non) s := by
  rw [raw_order_ok n s g.ne g.len h0 (by omega) (h.sm m0 m1) (h.sm2 h0 m0 m1) (h.sm3 h0 m0 m1 g.ne g.len), ordL_eq]
  rfl
theorem order_of_ok [Has P "order_of" F_order_of] {m : Nat} (g : Rg vs d) {ws : List Rat} (h : Wk vs.length m ws) : call P (n + 36) "order_of" [ringD vs d, .tup (ws.map fr)] s = ok (ordT (ordN (gone vs.length ws))) s := by
  rw [call_has "order_of" (n + 30) _ _ rfl]
  simp only [F_order_of, EVa, EVb, EVc, EVd, EVn]
  rw [show n + 30 + 5 = (n + 5) + 30 by omega, wk_check _ _ g h]
  simp only [EVa, EVb, EVc, EVd, EVn]
  rw [wk_raw _ _ g h.m0 h.m1 h.hk (by have := h.two; omega) h.len, if_pos ((gone_nodup g.ne ws).mpr h.nd)]
  simp only [EVa, EVb, EVc, EVd, EVn]
theorem order_of_ex [Has P "order_of" F_order_of] {r w : D} {x : Exc} (h : ∀ n s, call P (n + 30) "check_walkers" [r, w] s = some (.ex x, s)) : call P (n + 36) "order_of" [r, w] s = some (.ex x, s) := by
  rw [call_has "order_of" (n + 30) _ _ rfl]
  simp only [F_order_of, EVa, EVb, EVc, EVd, EVn]
  rw [show n + 30 + 5 = (n + 5) + 30 by omega, h]
  simp only [EVa, EVb, EVc, EVd, EVn]
theorem first_turn_ex [Has P "first_turn" F_first_turn] {r w t : D} {x : Exc} (h : ∀ n s, call P (n + 30) "check_walkers" [r, w] s = some (.ex x, s)) : call P (n + 36) "first_turn" [r, w, t] s = some (.ex x, s) := by
  rw [call_has "first_turn" (n + 30) _ _ rfl]
  simp only [F_first_turn, EVa, EVb, EVc, EVd, EVn]
  rw [show n + 30 + 5 = (n + 5) + 30 by omega, h]
  simp only [EVa, EVb, EVc, EVd, EVn]
theorem first_turn_num [Has P "first_turn" F_first_turn] {m : Nat} (g : Rg vs d) {ws : List Rat} (h : Wk vs.length m ws) {t : D} (ht : Thing t) (hb : isBet t 1 60 = false) : call P (n + 36) "first_turn" [ringD vs d, .tup (ws.map fr), t] s = some (.ex ⟨"NoNumber", none⟩, s) := by
  rw [call_has "first_turn" (n + 30) _ _ rfl]
  simp only [F_first_turn, EVa, EVb, EVc, EVd, EVn]
  rw [show n + 30 + 5 = (n + 5) + 30 by omega, wk_check _ _ g h]
  simp only [EVa, EVb, EVc, EVd, EVn, HasG.gl]
  rw [show n + 5 + 30 = (n + 23) + 12 by omega, is_between_ok _ _ ht, hb]
  simp only [EVa, EVb, EVc, EVd, EVn, Bool.not_false]
theorem ft_loop {m : Nat} (g : Rg vs d) {ws : List Rat} (h : Wk vs.length m ws) (a b c : Sl) : ∀ (j i : Nat) (u : Sl), i + j ≤ 9 → ∃ ρ, forGo (forK (cfOf P (n + 30)) (.one 3) B_ft) ((List.range' i j).map natD) [.v (ringD vs d), a, b, u, .v (ordT (ordN (gone vs.length ws))), .v (.tup ((hereK vs d ws i).map fr)), .no] s = ok (match fstT (tst vs d ws) j i with
    | none => .nx ρ
    | some k => .ret ρ (natD k)) s
  | 0, i, u, _ => ⟨_, rfl⟩
  | j + 1, i, u, hij => by
    have hk := hereK_ok g h (k := i) (by omega)
    have hk1 := hereK_ok g h (k := i + 1) (by omega)
    have len : ∀ k, (hereK vs d ws k).length = ws.length := fun k => by simp [hereK]
    have l0 := h.two
    have l1 := h.len
    rw [List.range'_succ, List.map_cons]
    have hm : ∀ ρ : Env, ρ.at 0 = .v (ringD vs d) → ρ.length = 7 → mapGo (compF (cfOf P (n + 12 + 18)) [6] (.one 6) none (.call "value_at" [(.var 0), (.var 6)]) ρ) ((hereK vs d ws i).map fr) s = ok ((hereK vs d ws (i + 1)).map fr) s := by
      intro ρ h0 hl
      match ρ, hl with
      | [a0, b0, c0, d0, e0, f0, g0], _ =>
        have h0 : a0 = .v (ringD vs d) := h0
        subst h0
        rw [mapGo_map (e := fr) (g := fun q => fr (val vs d q)) (by
          intro q hq
          simp only [EVa, EVb, EVc, EVd, EVn]
          rw [value_ok _ _ g q (hk.sm h.m0 h.m1 q hq)]
          simp only [EVa, EVb, EVc, EVd, EVn]), hereK_succ, List.map_map]
        rfl
    unfold fstT
    simp only [EVf, EVa, EVb, EVc, EVd, EVn, B_ft, it_t, natD]
    rw [if_lim (by rw [List.length_map, len]; omega), show n + 30 = n + 12 + 18 by omega, hm _ rfl rfl]
    simp only [EVf, EVa, EVb, EVc, EVd, EVn]
    rw [show n + 12 + 18 = n + 30 by omega, wk_raw _ _ g h.m0 h.m1 hk1 (by rw [len]; omega) (by rw [len]; omega)]
    simp only [EVf, EVa, EVb, EVc, EVd, EVn]
    by_cases nd : (gone vs.length (hereK vs d ws (i + 1))).Nodup
    · rw [if_pos nd]
      by_cases oe : ordN (gone vs.length (hereK vs d ws (i + 1))) = ordN (gone vs.length ws)
      · rw [if_neg (show ¬ tst vs d ws (i + 1) by unfold tst; rintro (z | z); exact z nd; exact z oe)]
        obtain ⟨ρ, e⟩ := ft_loop g h a b c j (i + 1) (.v (.int (i : Nat))) (by omega)
        refine ⟨ρ, ?_⟩
        simp only [enc_ordT.ne_f (by decide) oe, EVf, EVa, EVb, EVc, EVd, EVn]
        exact e
      · rw [if_pos (show tst vs d ws (i + 1) from .inr oe)]
        apply Exists.intro
        simp only [enc_ordT.ne_t (by decide) oe, EVf, EVa, EVb, EVc, EVd, EVn]
        rfl
    · rw [if_neg nd, if_pos (show tst vs d ws (i + 1) from .inl nd)]
      apply Exists.intro
      simp only [non_ne_tup, EVf, EVa, EVb, EVc, EVd, EVn]
      rfl
theorem first_turn_ok [Has P "first_turn" F_first_turn] {m : Nat} (g : Rg vs d) {ws : List Rat} (h : Wk vs.length m ws) {N : Nat} (h1 : 1 ≤ N) (h9 : N ≤ 9) : call P (n + 36) "first_turn" [ringD vs d, .tup (ws.map fr), .int N] s = ok (optD (fstT (tst vs d ws) N 0)) s := by
  rw [call_has "first_turn" (n + 30) _ _ rfl]
  simp only [F_first_turn, EVa, EVb, EVc, EVd, EVn]
  rw [show n + 30 + 5 = (n + 5) + 30 by omega, wk_check _ _ g h]
  simp only [EVa, EVb, EVc, EVd, EVn, HasG.gl]
  rw [show n + 5 + 30 = (n + 23) + 12 by omega, is_between_ok _ _ (thing_int _), show isBet (.int (N : Int)) 1 60 = true by show decide _ = true; rw [decide_eq_true_eq]; omega]
  simp only [EVa, EVb, EVc, EVd, EVn, Bool.not_true]
  rw [show n + 23 + 12 = (n + 5) + 30 by omega, wk_raw _ _ g h.m0 h.m1 h.hk (by have := h.two; omega) h.len, if_pos ((gone_nodup g.ne ws).mpr h.nd)]
  simp only [EVa, EVb, EVc, EVd, EVn]
  rw [if_pos (rngG_ok (by decide) (by omega) (by decide) (by omega)), rng_nat]
  simp only [EVa, EVb, EVc, EVd, EVn]
  obtain ⟨ρ, e⟩ := ft_loop (P := P) (n + 5) s g h (.v (.tup (ws.map fr))) (.v (.int N)) .no N 0 .no (by omega)
  have z : hereK vs d ws 0 = ws := by
    unfold hereK
    have : (it (val vs d) 0 : Rat → Rat) = id := rfl
    rw [this, List.map_id]
  rw [z] at e
  rw [e]
  cases fstT (tst vs d ws) N 0 with
  | none => simp only [EVa, EVb, EVc, EVd, EVn]; rfl
  | some k => simp only [EVa, EVb, EVc, EVd, EVn]; rfl
end
section
variable [Has P "_law_low" F_law_low] [Has P "_law_sub" F_law_sub] [Has P "_law_on" F_law_on] [Has P "_law_less" F_law_less] [Has P "_law_sorted" F_law_sorted] [Has P "_law_dot_of" F_law_dot_of] [Has P "_law_to" F_law_to] [Has P "_law_are_apart" F_law_are_apart] [Has P "_law_order" F_law_order]
/-- the law's walkers: led back to the ring ahead of each step -/
def hereL (vs : List Int) (d : Int) (ws : List Rat) (k : Nat) : List Rat := ws.map (it (fun q => val vs d (alk vs.length q)) k)
theorem hereL_succ (ws : List Rat) (k : Nat) : hereL vs d ws (k + 1) = (hereL vs d ws k).map (fun q => val vs d (alk vs.length q)) := by
  unfold hereL
  rw [List.map_map]
  rfl
theorem itL_in (g : Rg vs d) {w : Rat} (h : In 1000 w) : ∀ k, In 6000 (it (fun q => val vs d (alk vs.length q)) k w)
  | 0 => h.up (by decide)
  | k + 1 => (val_in g.ne g.len g.v g.d ((alk_in g.ne _).up g.len)).up (by decide)
theorem itL_gr {m : Nat} {w : Rat} (h : Gr m w) : ∀ k, Gr m (it (fun q => val vs d (alk vs.length q)) k w)
  | 0 => h
  | k + 1 => (itL_gr h k).alk.val vs d
theorem hereL_ok {n m : Nat} {ws : List Rat} (g : Rg vs d) (h : Wk n m ws) (k : Nat) : Hk m (hereL vs d ws k) := by
  constructor
  · intro w hw
    obtain ⟨u, hu, rfl⟩ := List.mem_map.mp hw
    exact itL_gr (h.gr u hu) k
  · intro w hw
    obtain ⟨u, hu, rfl⟩ := List.mem_map.mp hw
    exact (itL_in g (h.inn u hu) k).up (by decide)
theorem gone_L {ws : List Rat} (g : Rg vs d) (h : 0 < ws.length) (k : Nat) : gone vs.length (hereL vs d ws k) = gone vs.length (hereK vs d ws k) := gone_congr g.ne h fun w _ => it_alk g.ne k w
theorem lt_loop {m : Nat} (g : Rg vs d) {ws : List Rat} (h : Wk vs.length m ws) (b c : Sl) : ∀ (j i : Nat) (u : Sl), ∃ ρ, forGo (forK (cfOf P (n + 30)) (.one 4) B_lt) ((List.range' (i + 1) j).map natD) [.v (diskD vs d), b, c, .v (ordT (ordN (gone vs.length ws))), u, .v (.int vs.length), .v (.lst ((hereL vs d ws i).map fr)), .no] s = ok (match fstT (tst vs d ws) j i with
    | none => .nx ρ
    | some k => .ret ρ (natD k)) s
  | 0, i, u => ⟨_, rfl⟩
  | j + 1, i, u => by
    have hk := hereL_ok g h i
    have hk1 := hereL_ok g h (i + 1)
    have len : ∀ k, (hereL vs d ws k).length = ws.length := fun k => by simp [hereL]
    have l0 := h.two
    have l1 := h.len
    rw [List.range'_succ, List.map_cons]
    have hm : ∀ ρ : Env, ρ.at 0 = .v (diskD vs d) → ρ.at 5 = .v (.int vs.length) → ρ.length = 8 → mapGo (compF (cfOf P (n + 18 + 12)) [7] (.one 7) none (.call "_law_to" [(.var 0), (.call "_law_on" [(.var 5), (.var 7)])]) ρ) ((hereL vs d ws i).map fr) s = ok ((hereL vs d ws (i + 1)).map fr) s := by
      intro ρ h0 h5 hl
      match ρ, hl with
      | [a0, b0, c0, d0, e0, f0, g0, i0], _ =>
        have h0 : a0 = .v (diskD vs d) := h0
        subst h0
        have h5 : f0 = .v (.int vs.length) := h5
        subst h5
        rw [mapGo_map (e := fr) (g := fun q => fr (val vs d (alk vs.length q))) (by
          intro q hq
          have pq : Pt vs.length m (alk vs.length q) := Pt.alk g.ne (hk.gr q hq)
          simp only [EVa, EVb, EVc, EVd, EVn]
          rw [law_on_ok _ _ g.ne g.len q (hk.sm h.m0 h.m1 q hq)]
          simp only [EVa, EVb, EVc, EVd, EVn]
          rw [law_to_ok _ _ g _ (pq.sm g.len h.m0 h.m1)]
          simp only [EVa, EVb, EVc, EVd, EVn]), hereL_succ, List.map_map]
        rfl
    unfold fstT
    simp only [EVf, EVa, EVb, EVc, EVd, EVn, B_lt, it_l, natD]
    rw [if_lim (by rw [List.length_map, len]; omega), show n + 30 = n + 18 + 12 by omega, hm _ rfl rfl rfl]
    simp only [EVf, EVa, EVb, EVc, EVd, EVn]
    rw [show n + 18 + 12 = (n + 12) + 18 by omega, are_apart_ok _ _ g.ne g.len (by rw [len]; omega) (hk1.sm h.m0 h.m1) _ (.inr rfl)]
    simp only [EVf, EVa, EVb, EVc, EVd, EVn]
    have ge := gone_L g (ws := ws) (by omega) (i + 1)
    by_cases nd : ((hereL vs d ws (i + 1)).map (alk vs.length)).Nodup
    · have nd2 := (gone_nodup g.ne _).mpr nd
      have nd3 := nd2
      rw [ge] at nd3
      simp only [decide_eq_true nd, Bool.not_true, EVf, EVa, EVb, EVc, EVd, EVn]
      rw [law_order_ok _ _ g.ne g.len h.m0 h.m1 (by rw [len]; omega) (by rw [len]; omega) (hk1.sm h.m0 h.m1) hk1.gr nd2 _ (.inr rfl), ge, ordL_eq]
      rw [show D.tup ((ordN (gone vs.length (hereK vs d ws (i + 1)))).map natD) = ordT (ordN (gone vs.length (hereK vs d ws (i + 1)))) from rfl]
      simp only [EVf, EVa, EVb, EVc, EVd, EVn]
      by_cases oe : ordN (gone vs.length (hereK vs d ws (i + 1))) = ordN (gone vs.length ws)
      · rw [if_neg (show ¬ tst vs d ws (i + 1) by unfold tst; rintro (z | z); exact z nd3; exact z oe)]
        obtain ⟨ρ, e⟩ := lt_loop g h b c j (i + 1) (.v (.int ((i + 1 : Nat) : Int)))
        refine ⟨ρ, ?_⟩
        simp only [enc_ordT.ne_f (by decide) oe, EVf, EVa, EVb, EVc, EVd, EVn]
        rw [show n + 12 + 18 = n + 30 by omega]
        exact e
      · rw [if_pos (show tst vs d ws (i + 1) from .inr oe)]
        apply Exists.intro
        simp only [enc_ordT.ne_t (by decide) oe, EVf, EVa, EVb, EVc, EVd, EVn]
        rfl
    · have nd3 : ¬ (gone vs.length (hereK vs d ws (i + 1))).Nodup := by
        rw [← ge, gone_nodup g.ne]; exact nd
      rw [if_pos (show tst vs d ws (i + 1) from .inl nd3)]
      apply Exists.intro
      simp only [decide_eq_false nd, Bool.not_false, EVf, EVa, EVb, EVc, EVd, EVn]
      rfl
theorem law_turn_ok [Has P "_law_turn" F_law_turn] {m : Nat} (g : Rg vs d) {ws : List Rat} (h : Wk vs.length m ws) {N : Nat} (h9 : N ≤ 1000) : call P (n + 36) "_law_turn" [diskD vs d, .tup (ws.map fr), .int N] s = ok (optD (fstT (tst vs d ws) N 0)) s := by
  rw [call_has "_law_turn" (n + 30) _ _ rfl]
  have l0 := h.two
  have l1 := h.len
  simp only [F_law_turn, EVa, EVb, EVc, EVd, EVn, diskD, List.length_map]
  rw [show n + 30 + 5 = (n + 17) + 18 by omega, law_order_ok _ _ g.ne g.len h.m0 h.m1 (by omega) (by omega) h.sm h.gr ((gone_nodup g.ne ws).mpr h.nd) _ (.inr rfl), ordL_eq]
  simp only [EVa, EVb, EVc, EVd, EVn]
  rw [if_pos (rngG_ok (by decide) (by omega) (by decide) (by omega)), rng_nat1]
  simp only [EVa, EVb, EVc, EVd, EVn]
  obtain ⟨ρ, e⟩ := lt_loop (P := P) (n + 5) s g h (.v (.tup (ws.map fr))) (.v (.int N)) N 0 .no
  have z : hereL vs d ws 0 = ws := by
    unfold hereL
    have : (it (fun q => val vs d (alk vs.length q)) 0 : Rat → Rat) = id := rfl
    rw [this, List.map_id]
  rw [z] at e
  simp only [ordT, diskD] at e
  rw [show n + 17 + 18 = n + 5 + 30 by omega, e]
  cases fstT (tst vs d ws) N 0 with
  | none => simp only [EVa, EVb, EVc, EVd, EVn]; rfl
  | some k => simp only [EVa, EVb, EVc, EVd, EVn]; rfl
theorem be_loop {m : Nat} (g : Rg vs d) (m0 : 0 < m) (m1 : m < 2 ^ 20) {w : Rat} (hg : Gr m w) (hi : In 1000 w) (b : Sl) : ∀ (j i : Nat) (u : Sl), i + j ≤ 9 → ∃ u', forGo (forK (cfOf P (n + 12)) (.one 3) [.asg 1 (.call "_law_to" [(.var 0), (.var 1)])]) ((List.range' i j).map natD) [.v (diskD vs d), .v (fr (it (val vs d) i w)), b, u] s = ok (.nx [.v (diskD vs d), .v (fr (it (val vs d) (i + j) w)), b, u']) s
  | 0, i, u, _ => ⟨u, rfl⟩
  | j + 1, i, u, hij => by
    obtain ⟨u', e⟩ := be_loop g m0 m1 hg hi b j (i + 1) (.v (natD i)) (by omega)
    refine ⟨u', ?_⟩
    have sm : Sm (it (val vs d) i w) := sm_of ((it_in g hi i).up (bd9 (show i ≤ 9 by omega))) (it_gr hg i) m0 (by omega) (by omega)
    rw [List.range'_succ, List.map_cons]
    simp only [EVf, EVa, EVb, EVc, EVd, EVn]
    rw [law_to_ok _ _ g _ sm]
    simp only [EVf, EVa, EVb, EVc, EVd, EVn]
    rw [show i + (j + 1) = i + 1 + j by omega]
    exact e
theorem behind_ok [Has P "_law_behind" F_law_behind] {m : Nat} (g : Rg vs d) (m0 : 0 < m) (m1 : m < 2 ^ 20) {w : Rat} (hg : Gr m w) (hi : In 1000 w) {k : Nat} (hk : k ≤ 9) : call P (n + 18) "_law_behind" [diskD vs d, fr w, natD k] s = ok (fr (it (val vs d) k w)) s := by
  rw [call_has "_law_behind" (n + 12) _ _ rfl]
  obtain ⟨u', e⟩ := be_loop (P := P) (n + 5) s g m0 m1 hg hi (.v (natD k)) k 0 .no (by omega)
  simp only [F_law_behind, EVa, EVb, EVc, EVd, EVn, natD]
  rw [if_pos (rngG_ok (by decide) (by omega) (by decide) (by omega)), rng_nat]
  simp only [EVa, EVb, EVc, EVd, EVn]
  rw [show n + 12 + 5 = n + 5 + 12 by omega]
  have z : it (val vs d) 0 w = w := rfl
  rw [z] at e
  simp only [natD] at e ⊢
  rw [e]
  simp only [EVa, EVb, EVc, EVd, EVn, Nat.zero_add]
end
end
end Ev
set_option maxHeartbeats 1000000
/-! Pl87f: what the law draws. -/
namespace Ev
open PySem
def F_law_rising : Fn := ⟨2, 9, [.asg 2 (.bin .add (.int 2) (.call "_law_draw" [(.var 0), (.bin .sub (.var 1) (.int 1))])), .own 3 (.lst [(.int 0)]), .asg 4 (.var 2), .for (.one 5) (.rng1 (.bin .sub (.var 2) (.int 1))) [.asg 7 (.call "_law_any" [(.var 0), (.lst [(.int 0), (.int 0), (.int 1), (.int 1), (.int 1), (.int 2), (.int 3)])]), .asg 7 (.blt .min2 [(.var 7), (.var 4)]), .asg 4 (.bin .sub (.var 4) (.var 7)), .app 3 (.bin .add (.sub (.var 3) (.neg (.int 1))) (.var 7))], .asg 6 (.bin .sub (.call "_law_draw" [(.var 0), (.bin .add (.bin .mul (.int 2) (.var 2)) (.int 1))]) (.var 2)), .ret (.blt .tuple [(.comp [8] (.one 8) (.seq (.var 3)) none (.bin .add (.var 8) (.var 6)))])]⟩
def F_law_odd : Fn := ⟨1, 4, [.asg 1 (.call "_law_any" [(.var 0), (.lst [.non, (.str "x"), (.neg (.int 1))])]), .for (.one 2) (.rng1 (.call "_law_draw" [(.var 0), (.int 50)])) [.asg 1 (.ite (.e (.cmp .eq (.call "_law_draw" [(.var 0), (.int 2)]) (.int 0))) (.lst [(.var 1)]) (.tup [(.var 1)]))], .asg 3 (.lst [.non, (.str "x"), (.int 0), (.bl true), (.tup []), (.lst []), .dct0, (.tup [(.int 0)]), (.tup [(.int 2), (.int 4)]), (.tup [(.int 1), (.int 0)]), (.tup [(.int 1), (.neg (.int 2))]), (.tup [(.bl true), (.int 1)]), (.lst [(.int 1), (.int 2)]), (.var 1)]), .ret (.call "_law_any" [(.var 0), (.bin .add (.var 3) (.lst [(.tup [(.str "0"), (.int 1)])]))])]⟩
def F_law_disk : Fn := ⟨2, 5, [.par [(2, false), (3, false)] [(.bin .add (.int 2) (.call "_law_draw" [(.var 0), (.bin .sub (.var 1) (.int 1))])), (.call "_law_any" [(.var 0), (.lst [(.int 1), (.int 1), (.int 0), (.int 2), (.bin .sub (.int 0) (.int 1)), (.bin .sub (.int 0) (.int 2))])])], .ret (.tup [(.blt .tuple [(.comp [4] (.one 4) (.rng1 (.var 2)) none (.bin .sub (.bin .add (.bin .mul (.var 3) (.var 4)) (.call "_law_draw" [(.var 0), (.int 5)])) (.int 2)))]), (.var 3)])]⟩
def F_law_drawn : Fn := ⟨2, 5, [.own 2 (.lst []), .for (.one 3) (.rng1 (.bin .add (.int 2) (.call "_law_draw" [(.var 0), (.int 4)]))) [.asg 4 (.call "_law_low" [(.bin .sub (.call "_law_draw" [(.var 0), (.bin .mul (.int 12) (.var 1))]) (.bin .mul (.int 4) (.var 1))), (.call "_law_any" [(.var 0), (.lst [(.int 1), (.int 2), (.int 2), (.int 3), (.int 4)])])]), .iff (.e (.call "_law_are_apart" [(.var 1), (.bin .add (.var 2) (.lst [(.var 4)]))])) [.app 2 (.var 4)] []], .loop (.e (.cmp .lt (.blt .len [(.var 2)]) (.int 2))) [.app 2 (.call "_law_add" [(.sub (.var 2) (.int 0)), (.tup [(.int 1), (.int 7)])])], .ret (.blt .tuple [(.var 2)])]⟩
theorem F2_ints {α : Type} {p : Int → Prop} : ∀ {l : List α} {ys : List D}, F2 (fun _ y => ∃ v, y = .int v ∧ p v) l ys → ∃ vs : List Int, ys = vs.map .int ∧ vs.length = l.length ∧ ∀ v ∈ vs, p v
  | _, _, .nil => ⟨[], rfl, rfl, by simp⟩
  | _, _, .cons ⟨v, e, h⟩ t => by
    obtain ⟨vs, e2, h2, h3⟩ := F2_ints t
    refine ⟨v :: vs, by rw [e, e2]; rfl, by simp [h2], fun x hx => ?_⟩
    rcases List.mem_cons.mp hx with rfl | hx
    · exact h
    · exact h3 x hx
theorem muteD (ds : List D) (s : St) : mute (ok ds s) = ok ds s := rfl
section
variable {P : Pg} [Low P] [HasDraw P] [Has P "_law_any" F_law_any] {h : Hand} {c : Int}
theorem disk_ok [Has P "_law_disk" F_law_disk] (g : HandG h c) (hc : c < 2 ^ 50) : ∃ (vs : List Int) (d : Int) (h' : Hand), (∀ n, call P (n + 12) "_law_disk" [.hand, .int 4] (some h) = ok (diskD vs d) (some h')) ∧ Rok vs d ∧ vs.length ≤ 4 ∧ HandG h' (c + 10) := by
  obtain ⟨m, h1, e1, m1, m2, g1⟩ := draw_call (P := P) (m := 3) g (by omega) (by decide)
  obtain ⟨x, h2, e2, hx, g2⟩ := any_call (P := P) (xs := [.int 1, .int 1, .int 0, .int 2, .int (0 - 1), .int (0 - 2)]) g1 (by omega) (by simp) (by simp)
  have hd : ∃ d, x = .int d ∧ -2 ≤ d ∧ d ≤ 2 := by
    simp only [List.mem_cons, List.not_mem_nil, or_false] at hx
    rcases hx with rfl | rfl | rfl | rfl | rfl | rfl <;> exact ⟨_, rfl, by decide, by decide⟩
  obtain ⟨d, rfl, d1, d2⟩ := hd
  obtain ⟨k, rfl⟩ : ∃ k : Nat, m = k := ⟨m.toNat, by omega⟩
  obtain ⟨ys, h3, e3, g3, f3⟩ := mapGo_gets (f := fun n => compF (cfOf P (n + 11)) [4] (.one 4) none (.bin .sub (.bin .add (.bin .mul (.var 3) (.var 4)) (.call "_law_draw" [(.var 0), (.int 5)])) (.int 2)) [.v .hand, .v (.int 4), .v (.int ((2 + k : Nat) : Int)), .v (.int d), .no]) (e := natD) (Q := fun _ y => ∃ v, y = .int v ∧ (-60 ≤ v ∧ v ≤ 60)) (k := 1) (B := 2 ^ 55) (l := List.range' 0 (2 + k)) (by decide) (by
    intro a ha h c g hb
    obtain ⟨v, h', e, v1, v2, g'⟩ := draw_call (P := P) (m := 5) g (by omega) (by decide)
    have ha2 : a < 2 + k := by
      have := List.mem_range'_1.mp ha
      omega
    refine ⟨.int (d * (a : Int) + v - 2), h', fun n => ?_, g', _, rfl, ?_⟩
    · simp only [natD, EVa, EVb, EVc, EVd, EVn]
      rw [b_mul (i := d) (j := (a : Int)) (by omega) (by omega)]
      simp only [EVa, EVb, EVc, EVd, EVn, e]
    · have : a = 0 ∨ a = 1 ∨ a = 2 ∨ a = 3 := by omega
      rcases this with rfl | rfl | rfl | rfl <;> omega) g2 (by rw [List.length_range']; omega)
  rw [List.length_range'] at g3
  obtain ⟨vs, rfl, l1, l2⟩ := F2_ints f3
  rw [List.length_range'] at l1
  refine ⟨vs, d, h3, fun n => ?_, ⟨by omega, by omega, l2, by omega⟩, by omega, g3.mono (by omega)⟩
  rw [call_has "_law_disk" (n + 6) _ _ rfl]
  simp only [F_law_disk, EVa, EVb, EVc, EVd, EVn, show (4 : Int) - 1 = 3 from rfl, e1]
  rw [show n + 6 + 5 = (n + 5) + 6 by omega, e2]
  simp only [EVa, EVb, EVc, EVd, EVn]
  rw [if_pos (rngG_ok (by decide) (by omega) (by decide) (by omega)), show (2 + (k : Int)) = ((2 + k : Nat) : Int) by omega, rng_nat]
  simp only [EVa, EVb, EVc, EVd, EVn]
  rw [if_lim (by simp; omega), show n + 5 + 6 = n + 11 by omega, e3]
  simp only [EVa, EVb, EVc, EVd, EVn]
  rfl
theorem sub_last (xs : List D) (a : D) : subD (.lst (xs ++ [a])) (.int (-1)) = some a := by
  show (ixD (xs ++ [a]).length (-1)).bind _ = _
  unfold ixD
  rw [if_neg (by decide), if_pos (by simp; omega)]
  show (xs ++ [a])[((-1 : Int) + ((xs ++ [a]).length : Int)).toNat]? = _
  rw [show ((-1 : Int) + ((xs ++ [a]).length : Int)).toNat = xs.length by simp; omega]
  simp
def B_ri : List S := [.asg 7 (.call "_law_any" [(.var 0), (.lst [(.int 0), (.int 0), (.int 1), (.int 1), (.int 1), (.int 2), (.int 3)])]), .asg 7 (.blt .min2 [(.var 7), (.var 4)]), .asg 4 (.bin .sub (.var 4) (.var 7)), .app 3 (.bin .add (.sub (.var 3) (.neg (.int 1))) (.var 7))]
theorem ri_loop (b : Sl) (m : Nat) (f6 f8 : Sl) : ∀ (j i : Nat) (l : List Int) (x left : Int) (u w : Sl) (h : Hand) (c : Int), HandG h c → c + j < 2 ^ 55 → (l ++ [x]).Pairwise (· ≤ ·) → (∀ y ∈ l ++ [x], 0 ≤ y) → 0 ≤ left → x + left = m → l.length + j ≤ 1000 → ∃ (l' : List Int) (x' left' : Int) (u' w' : Sl) (h' : Hand), (∀ n, forGo (forK (cfOf P (n + 11)) (.one 5) B_ri) ((List.range' i j).map natD) [.v .hand, b, .v (.int m), .own (.lst ((l ++ [x]).map .int)), .v (.int left), u, f6, w, f8] (some h) = ok (.nx [.v .hand, b, .v (.int m), .own (.lst ((l' ++ [x']).map .int)), .v (.int left'), u', f6, w', f8]) (some h')) ∧ HandG h' (c + j) ∧ (l' ++ [x']).Pairwise (· ≤ ·) ∧ (∀ y ∈ l' ++ [x'], 0 ≤ y) ∧ 0 ≤ left' ∧ x' + left' = m ∧ l'.length = l.length + j := by
  intro j
  induction j with
  | zero =>
    intro i l x left u w h c g hc h1 h2 h3 h4 h5
    exact ⟨l, x, left, u, w, h, fun n => rfl, by simpa using g, h1, h2, h3, h4, rfl⟩
  | succ j ih =>
    intro i l x left u w h c g hc h1 h2 h3 h4 h5
    obtain ⟨y, h1', e1, hy, g1⟩ := any_call (P := P) (xs := [.int 0, .int 0, .int 1, .int 1, .int 1, .int 2, .int 3]) g (by omega) (by simp) (by simp)
    have hd : ∃ d, y = .int d ∧ 0 ≤ d := by
      simp only [List.mem_cons, List.not_mem_nil, or_false] at hy
      rcases hy with rfl | rfl | rfl | rfl | rfl | rfl | rfl <;> exact ⟨_, rfl, by decide⟩
    obtain ⟨d, rfl, d0⟩ := hd
    generalize hs : (if left < d then left else d) = st at *
    have s0 : 0 ≤ st ∧ st ≤ left := by subst hs; split <;> omega
    have hx : x ∈ l ++ [x] := by simp
    obtain ⟨l', x', left', u', w', h', e2, g2, k1, k2, k3, k4, k5⟩ := ih (i + 1) (l ++ [x]) (x + st) (left - st) (.v (.int (i : Nat))) (.v (.int st)) h1' (c + 1) g1 (by omega) (by
      rw [List.pairwise_append]
      refine ⟨h1, by simp, fun p hp q hq => ?_⟩
      simp at hq
      subst hq
      have : p ≤ x := by
        rcases List.mem_append.mp hp with hp | hp
        · exact (List.pairwise_append.mp h1).2.2 p hp x (by simp)
        · simp at hp; omega
      omega) (by
      intro p hp
      rcases List.mem_append.mp hp with hp | hp
      · exact h2 p hp
      · simp at hp
        have := h2 x hx
        omega) (by omega) (by omega) (by simp; omega)
    refine ⟨l', x', left', u', w', h', fun n => ?_, by rw [show c + ((j + 1 : Nat) : Int) = c + 1 + j by omega]; exact g2, k1, k2, k3, k4, by rw [k5]; simp; omega⟩
    rw [List.range'_succ, List.map_cons, ← e2 n]
    simp only [natD, EVf, EVa, EVb, EVc, EVd, EVn, B_ri]
    rw [show n + 11 = (n + 5) + 6 by omega, e1]
    simp only [EVf, EVa, EVb, EVc, EVd, EVn, hs, List.map_append, List.map_cons, List.map_nil, sub_last]
    rw [if_pos (by unfold lim; simp; omega)]
    simp only [EVf, EVa, EVb, EVc, EVd, EVn]
theorem ris_of {vs : List Int} (h0 : 0 < vs.length) (h1 : vs.Pairwise (· ≤ ·)) (h2 : ∀ x ∈ vs, ∀ y ∈ vs, y ≤ x + vs.length) : Ris vs := by
  refine ⟨h0, fun i => ?_⟩
  have m0 := Int.emod_nonneg i (show (vs.length : Int) ≠ 0 by omega)
  have m1 := Int.emod_lt_of_pos i (show (0 : Int) < vs.length by omega)
  have m2 := Int.mul_ediv_add_emod i vs.length
  have at' : ∀ k : Int, 0 ≤ k → (hk : k < vs.length) → vs.getD k.toNat 0 = vs[k.toNat]'(by omega) := fun k _ hk => by
    rw [List.getD_eq_getElem?_getD, List.getElem?_eq_getElem (by omega)]
    rfl
  unfold dotv
  by_cases z : i % (vs.length : Int) + 1 < vs.length
  · have e : i + 1 = (i % (vs.length : Int) + 1) + i / (vs.length : Int) * vs.length := by
      have := Int.mul_comm (vs.length : Int) (i / (vs.length : Int))
      omega
    have e1 : (i + 1) % (vs.length : Int) = i % (vs.length : Int) + 1 := by
      rw [e, Int.add_mul_emod_self_right, Int.emod_eq_of_lt (by omega) z]
    have e2 : (i + 1) / (vs.length : Int) = i / (vs.length : Int) := by
      rw [e, Int.add_mul_ediv_right _ _ (by omega), Int.ediv_eq_zero_of_lt (by omega) z, Int.zero_add]
    rw [e1, e2, at' _ (by omega) z, at' _ m0 m1]
    have := List.pairwise_iff_getElem.mp h1 (i % (vs.length : Int)).toNat (i % (vs.length : Int) + 1).toNat (by omega) (by omega) (by omega)
    omega
  · have z2 : i % (vs.length : Int) = vs.length - 1 := by omega
    have e : i + 1 = 0 + (i / (vs.length : Int) + 1) * vs.length := by
      have := Int.mul_comm (vs.length : Int) (i / (vs.length : Int))
      rw [Int.add_mul]
      omega
    have e1 : (i + 1) % (vs.length : Int) = 0 := by
      rw [e, Int.add_mul_emod_self_right, Int.zero_emod]
    have e2 : (i + 1) / (vs.length : Int) = i / (vs.length : Int) + 1 := by
      rw [e, Int.add_mul_ediv_right _ _ (by omega), Int.zero_ediv, Int.zero_add]
    rw [e1, e2, at' _ m0 m1, at' 0 (by omega) (by omega), Int.one_mul, Int.mul_add]
    have := h2 (vs[(0 : Int).toNat]'(by omega)) (List.getElem_mem _) (vs[(i % (vs.length : Int)).toNat]'(by omega)) (List.getElem_mem _)
    omega
theorem isFrac_one (x : D) : isFrac (.tup [x]) = false := by cases x <;> rfl
theorem rising_ok [Has P "_law_rising" F_law_rising] (g : HandG h c) (hc : c < 2 ^ 50) : ∃ (vs : List Int) (h' : Hand), (∀ n, call P (n + 12) "_law_rising" [.hand, .int 4] (some h) = ok (.tup (vs.map .int)) (some h')) ∧ Rok vs 1 ∧ vs.length ≤ 4 ∧ Ris vs ∧ HandG h' (c + 20) := by
  obtain ⟨m, h1, e1, m1, m2, g1⟩ := draw_call (P := P) (m := 3) g (by omega) (by decide)
  obtain ⟨k, rfl⟩ : ∃ k : Nat, m = k := ⟨m.toNat, by omega⟩
  obtain ⟨l, x, left, u, w, h2, e2, g2, k1, k2, k3, k4, k5⟩ := ri_loop (P := P) (.v (.int 4)) (2 + k) .no .no (k + 1) 0 [] 0 (2 + k : Nat) .no .no h1 (c + 1) g1 (by omega) (by simp) (by simp) (by omega) (by omega) (by simp; omega)
  obtain ⟨b, h3, e3, b1, b2, g3⟩ := draw_call (P := P) (m := 2 * ((2 + k : Nat) : Int) + 1) g2 (by omega) (by omega)
  have len : (l ++ [x]).length = 2 + k := by simp [k5]; omega
  have hx : ∀ y ∈ l ++ [x], 0 ≤ y ∧ y ≤ 2 + k := by
    intro y hy
    refine ⟨k2 y hy, ?_⟩
    have : y ≤ x := by
      rcases List.mem_append.mp hy with hp | hp
      · exact (List.pairwise_append.mp k1).2.2 y hp x (by simp)
      · simp at hp; omega
    omega
  have vl : ((l ++ [x]).map fun y => y + (b - (2 + k : Nat))).length = 2 + k := by rw [List.length_map, len]
  have rg : ∀ v ∈ (l ++ [x]).map fun y => y + (b - (2 + k : Nat)), ∃ y ∈ l ++ [x], y + (b - (2 + k : Nat)) = v := fun v hv => List.mem_map.mp hv
  refine ⟨(l ++ [x]).map fun y => y + (b - (2 + k : Nat)), h3, fun n => ?_, ⟨by omega, by omega, fun v hv => ?_, by decide⟩, by omega, ris_of (by omega) ?_ ?_, g3.mono (by omega)⟩
  · rw [call_has "_law_rising" (n + 6) _ _ rfl]
    simp only [F_law_rising, EVa, EVb, EVc, EVd, EVn, show (4 : Int) - 1 = 3 from rfl, e1]
    rw [show (2 + (k : Int)) = ((2 + k : Nat) : Int) by omega, show ((2 + k : Nat) : Int) - 1 = ((k + 1 : Nat) : Int) by omega, if_pos (rngG_ok (by decide) (by omega) (by decide) (by omega)), rng_nat]
    simp only [EVa, EVb, EVc, EVd, EVn]
    have e2' := e2 n
    simp only [List.nil_append, List.map_cons, List.map_nil, B_ri] at e2'
    rw [show n + 6 + 5 = n + 11 by omega, e2']
    simp only [EVa, EVb, EVc, EVd, EVn]
    rw [b_mul (i := 2) (j := ((2 + k : Nat) : Int)) (by omega) (by omega)]
    simp only [EVa, EVb, EVc, EVd, EVn, e3, it_l]
    rw [if_lim (by rw [List.length_map, len]; omega), mapGo_map (e := .int) (g := fun y => .int (y + (b - (2 + k : Nat)))) (by
      intro y hy
      simp only [EVa, EVb, EVc, EVd, EVn])]
    simp only [EVa, EVb, EVc, EVd, EVn, List.map_map]
    rfl
  · obtain ⟨y, hy, rfl⟩ := rg v hv
    have := hx y hy
    omega
  · rw [List.pairwise_map]
    exact k1.imp fun z => by omega
  · intro p hp q hq
    obtain ⟨y, hy, rfl⟩ := rg p hp
    obtain ⟨z, hz, rfl⟩ := rg q hq
    have := hx y hy
    have := hx z hz
    rw [vl]
    omega
/-- a thing that is neither a ring nor a point -/
structure Odd (d : D) : Prop where
  pty : Pty d
  frac : isFrac d = false
  ring : isRing d = false
theorem od_loop (a b : Sl) : ∀ (j i : Nat) (x : D) (u : Sl) (h : Hand) (c : Int), HandG h c → c + j < 2 ^ 55 → Odd x → ∃ (y : D) (u' : Sl) (h' : Hand), (∀ n, forGo (forK (cfOf P (n + 11)) (.one 2) [.asg 1 (.ite (.e (.cmp .eq (.call "_law_draw" [(.var 0), (.int 2)]) (.int 0))) (.lst [(.var 1)]) (.tup [(.var 1)]))]) ((List.range' i j).map natD) [.v .hand, .v x, u, b] (some h) = ok (.nx [.v .hand, .v y, u', b]) (some h')) ∧ HandG h' (c + j) ∧ Odd y := by
  intro j
  induction j with
  | zero =>
    intro i x u h c g hc ho
    exact ⟨x, u, h, fun n => rfl, by simpa using g, ho⟩
  | succ j ih =>
    intro i x u h c g hc ho
    obtain ⟨d, h1, e1, d1, d2, g1⟩ := draw_call (P := P) (m := 2) g (by omega) (by decide)
    by_cases z : d = 0
    · obtain ⟨y, u', h', e2, g2, oy⟩ := ih (i + 1) (.lst [x]) (.v (natD i)) h1 (c + 1) g1 (by omega) ⟨⟨trivial, fun a b h => by cases h⟩, rfl, rfl⟩
      refine ⟨y, u', h', fun n => ?_, by rw [show c + ((j + 1 : Nat) : Int) = c + 1 + j by omega]; exact g2, oy⟩
      rw [List.range'_succ, List.map_cons, ← e2 n]
      simp only [EVf, EVa, EVb, EVc, EVd, EVn, e1, decide_eq_true z]
    · obtain ⟨y, u', h', e2, g2, oy⟩ := ih (i + 1) (.tup [x]) (.v (natD i)) h1 (c + 1) g1 (by omega) ⟨⟨trivial, fun a b h => by cases h⟩, isFrac_one x, rfl⟩
      refine ⟨y, u', h', fun n => ?_, by rw [show c + ((j + 1 : Nat) : Int) = c + 1 + j by omega]; exact g2, oy⟩
      rw [List.range'_succ, List.map_cons, ← e2 n]
      simp only [EVf, EVa, EVb, EVc, EVd, EVn, e1, decide_eq_false z]
theorem odd_two {a b : D} (h1 : Thing a) (h2 : Thing b) (h3 : isFrac (.tup [a, b]) = false) : Odd (.tup [a, b]) := ⟨⟨trivial, fun x y h => by cases h; exact ⟨h1, h2⟩⟩, h3, rfl⟩
theorem odd_call [Has P "_law_odd" F_law_odd] (g : HandG h c) (hc : c < 2 ^ 50) : ∃ (x : D) (h' : Hand), (∀ n, call P (n + 12) "_law_odd" [.hand] (some h) = ok x (some h')) ∧ Odd x ∧ HandG h' (c + 60) := by
  obtain ⟨x, h1, e1, hx, g1⟩ := any_call (P := P) (xs := [.non, .str "x", .int (-1)]) g (by omega) (by simp) (by simp)
  have ox : Odd x := by
    simp only [List.mem_cons, List.not_mem_nil, or_false] at hx
    rcases hx with rfl | rfl | rfl <;> exact ⟨⟨trivial, fun a b h => by cases h⟩, rfl, rfl⟩
  obtain ⟨k, h2, e2, k1, k2, g2⟩ := draw_call (P := P) (m := 50) g1 (by omega) (by decide)
  obtain ⟨k, rfl⟩ : ∃ j : Nat, k = j := ⟨k.toNat, by omega⟩
  obtain ⟨y, u', h3, e3, g3, oy⟩ := od_loop (P := P) .no .no k 0 x .no h2 (c + 1 + 1) g2 (by omega) ox
  obtain ⟨z, h4, e4, hz, g4⟩ := any_call (P := P) (xs := [.non, .str "x", .int 0, .bl true, .tup [], .lst [], .dct [], .tup [.int 0], .tup [.int 2, .int 4], .tup [.int 1, .int 0], .tup [.int 1, .int (-2)], .tup [.bl true, .int 1], .lst [.int 1, .int 2], y] ++ [.tup [.str "0", .int 1]]) g3 (by omega) (by simp) (by simp)
  refine ⟨z, h4, fun n => ?_, ?_, g4.mono (by omega)⟩
  · rw [call_has "_law_odd" (n + 6) _ _ rfl]
    simp only [F_law_odd, EVa, EVb, EVc, EVd, EVn]
    rw [show n + 6 + 5 = (n + 5) + 6 by omega, e1]
    simp only [EVa, EVb, EVc, EVd, EVn]
    rw [show n + 5 + 6 = (n + 10) + 1 by omega, e2]
    simp only [EVa, EVb, EVc, EVd, EVn]
    rw [if_pos (rngG_ok (by decide) (by omega) (by decide) (by omega)), rng_nat]
    simp only [EVa, EVb, EVc, EVd, EVn]
    rw [show n + 10 + 1 = n + 11 by omega, e3]
    simp only [EVa, EVb, EVc, EVd, EVn]
    rw [add_l (by simp)]
    simp only [EVa, EVb, EVc, EVd, EVn]
    rw [show n + 11 = (n + 5) + 6 by omega, e4]
    simp only [EVa, EVb, EVc, EVd, EVn]
  · simp only [List.cons_append, List.nil_append, List.mem_cons, List.not_mem_nil, or_false] at hz
    rcases hz with rfl | rfl | rfl | rfl | rfl | rfl | rfl | rfl | rfl | rfl | rfl | rfl | rfl | rfl | rfl
    case inr.inr.inr.inr.inr.inr.inr.inr.inr.inr.inr.inr.inr.inl => exact oy
    all_goals first
      | exact odd_two trivial trivial rfl
      | (refine ⟨⟨trivial, fun a b h => ?_⟩, rfl, rfl⟩; cases h; done)
end
end Ev
set_option maxHeartbeats 1000000
/-! Pl87g: walkers drawn. -/
namespace Ev
open PySem
theorem fr_sev : D.tup [.int 1, .int 7] = fr (1 / 7) := by
  have e : (1 / 7 : Rat) = ((1 : Int) : Rat) / ((7 : Int) : Rat) := rfl
  unfold fr
  rw [e, div_num (by decide), div_den (by decide)]
  rfl
theorem div_gr {a b : Int} (hb : 0 < b) : Gr b.toNat ((a : Rat) / (b : Rat)) := by
  refine ⟨a, ?_⟩
  have : ((b.toNat : Nat) : Rat) = (b : Rat) := by
    have : ((b.toNat : Int) : Rat) = (b : Rat) := by rw [Int.toNat_of_nonneg (by omega)]
    exact this
  rw [this]
  exact Rat.div_mul_cancel (by have := Rat.intCast_pos.mpr hb; grind)
theorem div_in {a b : Int} {B : Nat} (hb : 0 < b) (h1 : -(B : Int) ≤ a) (h2 : a ≤ B) : In B ((a : Rat) / (b : Rat)) := by
  have b0 := Rat.intCast_pos.mpr hb
  have b1 : (1 : Rat) ≤ (b : Rat) := by
    have : (1 : Int) ≤ b := by omega
    have := Rat.intCast_le_intCast.mpr this
    exact this
  have e := Rat.div_mul_cancel (a := (a : Rat)) (b := (b : Rat)) (by grind)
  have a1 : -(B : Rat) ≤ (a : Rat) := by
    have := Rat.intCast_le_intCast.mpr h1
    rw [Rat.intCast_neg] at this
    exact this
  have a2 : (a : Rat) ≤ (B : Rat) := Rat.intCast_le_intCast.mpr h2
  have B0 : (0 : Rat) ≤ (B : Rat) := by exact_mod_cast Nat.zero_le B
  generalize (a : Rat) / (b : Rat) = q at *
  constructor
  · by_cases z : -(B : Rat) ≤ q
    · exact z
    · exfalso
      have : q * b < -(B : Rat) * b := Rat.mul_lt_mul_of_pos_right (by grind) b0
      have : -(B : Rat) * b ≤ -(B : Rat) * 1 := by
        have := Rat.mul_le_mul_of_nonneg_left b1 B0
        grind
      grind
  · by_cases z : q ≤ (B : Rat)
    · exact z
    · exfalso
      have : (B : Rat) * b < q * b := Rat.mul_lt_mul_of_pos_right (by grind) b0
      have : (B : Rat) * 1 ≤ (B : Rat) * b := Rat.mul_le_mul_of_nonneg_left b1 B0
      grind
/-- walkers in the making -/
structure Dw (n : Nat) (ws : List Rat) : Prop where
  gr : ∀ w ∈ ws, ∃ b : Nat, 0 < b ∧ b ≤ 4 ∧ Gr b w
  inn : ∀ w ∈ ws, In 100 w
  nd : (ws.map (alk n)).Nodup
theorem up84 {b : Nat} {q : Rat} (h0 : 0 < b) (h4 : b ≤ 4) (h : Gr b q) : Gr 84 q := by
  apply h.up
  have : b = 1 ∨ b = 2 ∨ b = 3 ∨ b = 4 := by omega
  rcases this with rfl | rfl | rfl | rfl <;> decide
theorem Dw.sm {n : Nat} {ws : List Rat} (h : Dw n ws) : ∀ w ∈ ws, Sm w := fun w hw => by
  obtain ⟨b, b0, b4, g⟩ := h.gr w hw
  exact sm_of (h.inn w hw) g b0 (by omega) (by omega)
/-- walkers drawn -/
structure Dr (n : Nat) (ws : List Rat) : Prop where
  wk : Wk n 84 ws
  len : ws.length ≤ 5
  pr : (∀ w ∈ ws, ∃ b : Nat, 0 < b ∧ b ≤ 4 ∧ Gr b w) ∨ ∃ (w : Rat) (b : Nat), ws = [w, w + 1 / 7] ∧ 0 < b ∧ b ≤ 4 ∧ Gr b w
def B_dr : List S := [.asg 4 (.call "_law_low" [(.bin .sub (.call "_law_draw" [(.var 0), (.bin .mul (.int 12) (.var 1))]) (.bin .mul (.int 4) (.var 1))), (.call "_law_any" [(.var 0), (.lst [(.int 1), (.int 2), (.int 2), (.int 3), (.int 4)])])]), .iff (.e (.call "_law_are_apart" [(.var 1), (.bin .add (.var 2) (.lst [(.var 4)]))])) [.app 2 (.var 4)] []]
section
variable {P : Pg} [Low P] [HasDraw P] [Has P "_law_any" F_law_any] [Has P "_law_low" F_law_low] [Has P "_law_add" F_law_add] [Has P "_law_sub" F_law_sub] [Has P "_law_less" F_law_less] [Has P "_law_sorted" F_law_sorted] [Has P "_law_on" F_law_on] [Has P "_law_are_apart" F_law_are_apart] {m : Nat}
theorem dr_loop (m0 : 0 < m) (m4 : m ≤ 4) : ∀ (j i : Nat) (ws : List Rat) (u v : Sl) (h : Hand) (c : Int), HandG h c → c + 2 * j < 2 ^ 55 → Dw m ws → ws.length ≤ i → i + j ≤ 5 → (0 < i → 0 < ws.length) → ∃ (ws' : List Rat) (u' v' : Sl) (h' : Hand), (∀ n, forGo (forK (cfOf P (n + 30)) (.one 3) B_dr) ((List.range' i j).map natD) [.v .hand, .v (.int m), .own (.lst (ws.map fr)), u, v] (some h) = ok (.nx [.v .hand, .v (.int m), .own (.lst (ws'.map fr)), u', v']) (some h')) ∧ HandG h' (c + 2 * j) ∧ Dw m ws' ∧ ws'.length ≤ i + j ∧ (0 < i + j → 0 < ws'.length) := by
  intro j
  induction j with
  | zero =>
    intro i ws u v h c g hc dw hl hij hp
    exact ⟨ws, u, v, h, fun n => rfl, by simpa using g, dw, hl, hp⟩
  | succ j ih =>
    intro i ws u v h c g hc dw hl hij hp
    obtain ⟨t, h1, e1, t1, t2, g1⟩ := draw_call (P := P) (m := 12 * (m : Int)) g (by omega) (by omega)
    obtain ⟨x, h2, e2, hx, g2⟩ := any_call (P := P) (xs := [.int 1, .int 2, .int 2, .int 3, .int 4]) g1 (by omega) (by simp) (by simp)
    have hb : ∃ b : Int, x = .int b ∧ 0 < b ∧ b ≤ 4 := by
      simp only [List.mem_cons, List.not_mem_nil, or_false] at hx
      rcases hx with rfl | rfl | rfl | rfl | rfl <;> exact ⟨_, rfl, by decide, by decide⟩
    obtain ⟨b, rfl, b0, b4⟩ := hb
    generalize hq : ((t - 4 * (m : Int) : Int) : Rat) / (b : Rat) = q at *
    have qg : ∃ b : Nat, 0 < b ∧ b ≤ 4 ∧ Gr b q := ⟨b.toNat, by omega, by omega, hq ▸ div_gr b0⟩
    have qi : In 100 q := hq ▸ div_in b0 (by omega) (by omega)
    have qs : ∀ w ∈ ws ++ [q], (∃ b : Nat, 0 < b ∧ b ≤ 4 ∧ Gr b w) ∧ In 100 w := by
      intro w hw
      rcases List.mem_append.mp hw with hw | hw
      · exact ⟨dw.gr w hw, dw.inn w hw⟩
      · simp at hw; subst hw; exact ⟨qg, qi⟩
    have qsm : ∀ w ∈ ws ++ [q], Sm w := fun w hw => by
      obtain ⟨⟨b, b0, b4, g⟩, i⟩ := qs w hw
      exact sm_of i g b0 (by omega) (by omega)
    have start : ∀ n, evSs (cfOf P (n + 30)) B_dr [.v .hand, .v (.int m), .own (.lst (ws.map fr)), .v (.int (i : Nat)), v] (some h) = bnd (iffK (cfOf P (n + 30)) [.app 2 (.var 4)] [] [.v .hand, .v (.int m), .own (.lst (ws.map fr)), .v (.int (i : Nat)), .v (fr q)] (decide ((ws ++ [q]).map (alk m)).Nodup) (some h2)) (seqK (cfOf P (n + 30)) []) := fun n => by
      simp only [EVf, EVa, EVb, EVc, EVd, EVn, B_dr]
      rw [b_mul (i := 12) (j := (m : Int)) (by omega) (by omega)]
      simp only [EVf, EVa, EVb, EVc, EVd, EVn]
      rw [show n + 30 = (n + 29) + 1 by omega, e1]
      simp only [EVf, EVa, EVb, EVc, EVd, EVn]
      rw [b_mul (i := 4) (j := (m : Int)) (by omega) (by omega)]
      simp only [EVf, EVa, EVb, EVc, EVd, EVn]
      rw [show n + 29 + 1 = (n + 24) + 6 by omega, e2]
      simp only [EVf, EVa, EVb, EVc, EVd, EVn]
      rw [low_ok _ _ _ _ _ b0 (by omega), hq]
      simp only [EVf, EVa, EVb, EVc, EVd, EVn]
      rw [add_l (by simp; omega), show ws.map fr ++ [fr q] = (ws ++ [q]).map fr by simp]
      simp only [EVf, EVa, EVb, EVc, EVd, EVn]
      rw [show n + 24 + 6 = (n + 12) + 18 by omega, are_apart_ok _ _ m0 (by omega) (by simp; omega) qsm _ (.inr rfl)]
      simp only [EVf, EVa, EVb, EVc, EVd, EVn]
    by_cases nd : ((ws ++ [q]).map (alk m)).Nodup
    · obtain ⟨ws', u', v', h', e3, g3, k1, k2, k3⟩ := ih (i + 1) (ws ++ [q]) (.v (.int (i : Nat))) (.v (fr q)) h2 (c + 1 + 1) g2 (by omega) ⟨fun w hw => (qs w hw).1, fun w hw => (qs w hw).2, nd⟩ (by simp; omega) (by omega) (by simp)
      refine ⟨ws', u', v', h', fun n => ?_, by rw [show c + 2 * ((j + 1 : Nat) : Int) = c + 1 + 1 + 2 * j by omega]; exact g3, k1, by omega, fun _ => k3 (by omega)⟩
      rw [List.range'_succ, List.map_cons, ← e3 n]
      simp only [EVf, EVa, EVb, EVc, EVd, EVn, natD]
      rw [start, decide_eq_true nd]
      simp only [EVf, EVa, EVb, EVc, EVd, EVn]
      rw [if_pos (by unfold lim; simp; omega)]
      simp only [EVf, EVa, EVb, EVc, EVd, EVn, List.map_append, List.map_cons, List.map_nil]
    · have wl : 0 < ws.length := by
        cases ws with
        | nil => exact absurd (by simp) nd
        | cons a r => simp
      obtain ⟨ws', u', v', h', e3, g3, k1, k2, k3⟩ := ih (i + 1) ws (.v (.int (i : Nat))) (.v (fr q)) h2 (c + 1 + 1) g2 (by omega) dw (by omega) (by omega) (fun _ => wl)
      refine ⟨ws', u', v', h', fun n => ?_, by rw [show c + 2 * ((j + 1 : Nat) : Int) = c + 1 + 1 + 2 * j by omega]; exact g3, k1, by omega, fun _ => k3 (by omega)⟩
      rw [List.range'_succ, List.map_cons, ← e3 n]
      simp only [EVf, EVa, EVb, EVc, EVd, EVn, natD]
      rw [start, decide_eq_false nd]
      simp only [EVf, EVa, EVb, EVc, EVd, EVn]
theorem drawn_ok [Has P "_law_drawn" F_law_drawn] {h : Hand} {c : Int} (g : HandG h c) (hc : c < 2 ^ 50) (m0 : 2 ≤ m) (m4 : m ≤ 4) : ∃ (ws : List Rat) (h' : Hand), (∀ n, call P (n + 31) "_law_drawn" [.hand, .int m] (some h) = ok (.tup (ws.map fr)) (some h')) ∧ Dr m ws ∧ HandG h' (c + 20) := by
  obtain ⟨t, h1, e1, t1, t2, g1⟩ := draw_call (P := P) (m := 4) g (by omega) (by decide)
  obtain ⟨t, rfl⟩ : ∃ j : Nat, t = j := ⟨t.toNat, by omega⟩
  obtain ⟨ws, u, v, h2, e2, g2, dw, l1, l2⟩ := dr_loop (P := P) (m := m) (by omega) m4 (2 + t) 0 [] .no .no h1 (c + 1) g1 (by omega) ⟨by simp, by simp, by simp⟩ (by simp) (by omega) (by simp)
  have wl : 0 < ws.length := l2 (by omega)
  have t0 : ∀ n (ws' : List Rat), 2 ≤ ws'.length → loopGo (cfOf P (n + 30)) (.e (.cmp .lt (.blt .len [(.var 2)]) (.int 2))) [.app 2 (.call "_law_add" [(.sub (.var 2) (.int 0)), (.tup [(.int 1), (.int 7)])])] [.v .hand, .v (.int m), .own (.lst (ws'.map fr)), u, v] (some h2) = ok (.nx [.v .hand, .v (.int m), .own (.lst (ws'.map fr)), u, v]) (some h2) := fun n ws' hl => by
    refine loop_f (s1 := some h2) ?_
    simp only [EVa, EVb, EVc, EVd, EVn, List.length_map, decide_eq_false (show ¬ (ws'.length : Int) < 2 by omega)]
  have pre : ∀ n (ws' : List Rat), loopGo (cfOf P (n + 30)) (.e (.cmp .lt (.blt .len [(.var 2)]) (.int 2))) [.app 2 (.call "_law_add" [(.sub (.var 2) (.int 0)), (.tup [(.int 1), (.int 7)])])] [.v .hand, .v (.int m), .own (.lst (ws.map fr)), u, v] (some h2) = ok (.nx [.v .hand, .v (.int m), .own (.lst (ws'.map fr)), u, v]) (some h2) → call P (n + 31) "_law_drawn" [.hand, .int m] (some h) = ok (.tup (ws'.map fr)) (some h2) := fun n ws' hw => by
    rw [call_has "_law_drawn" (n + 25) _ _ rfl]
    simp only [F_law_drawn, EVa, EVb, EVc, EVd, EVn]
    rw [show n + 25 + 5 = (n + 29) + 1 by omega, e1]
    simp only [EVa, EVb, EVc, EVd, EVn]
    rw [show (2 + (t : Int)) = ((2 + t : Nat) : Int) by omega, if_pos (rngG_ok (by decide) (by omega) (by decide) (by omega)), rng_nat]
    simp only [EVa, EVb, EVc, EVd, EVn]
    have e2' := e2 n
    simp only [List.map_nil, B_dr] at e2'
    rw [show n + 29 + 1 = n + 30 by omega, e2']
    simp only [EVa, EVb, EVc, EVd, EVn]
    rw [hw]
    simp only [EVa, EVb, EVc, EVd, EVn]
  by_cases z : 2 ≤ ws.length
  · refine ⟨ws, h2, fun n => pre n ws (t0 n ws z), ⟨⟨z, by omega, fun w hw => ?_, fun w hw => (dw.inn w hw).up (by decide), by decide, by decide, dw.nd⟩, by omega, .inl dw.gr⟩, g2.mono (by omega)⟩
    obtain ⟨b, b0, b4, gb⟩ := dw.gr w hw
    exact up84 b0 b4 gb
  · obtain ⟨w, rfl⟩ : ∃ w, ws = [w] := by
      match ws, wl, z with
      | [w], _, _ => exact ⟨w, rfl⟩
      | a :: b :: r, _, z => simp at z
    obtain ⟨b, b0, b4, gb⟩ := dw.gr w (by simp)
    have iw := dw.inn w (by simp)
    have s7 : Sm (1 / 7 : Rat) := by
      have e : (1 / 7 : Rat) = ((1 : Int) : Rat) / ((7 : Int) : Rat) := rfl
      rw [e]
      exact sm_of (div_in (B := 1) (by decide) (by decide) (by decide)) (div_gr (by decide)) (by decide) (by decide) (by decide)
    have g7 : Gr 84 (1 / 7 : Rat) := by
      have e : (1 / 7 : Rat) = ((1 : Int) : Rat) / ((7 : Int) : Rat) := rfl
      rw [e]
      exact (div_gr (a := 1) (b := 7) (by decide)).up (by decide)
    have nd : ([w, w + 1 / 7].map (alk m)).Nodup := by
      simp only [List.map_cons, List.map_nil, List.nodup_cons, List.mem_singleton, List.not_mem_nil, not_false_eq_true, List.nodup_nil, and_true]
      intro e
      rw [alk_iff (by omega)] at e
      obtain ⟨k, e⟩ := e
      have e2 : (1 : Rat) / 7 = ((-k : Int) : Rat) * m := by rw [Rat.intCast_neg]; grind
      have := mul_int_zero e2 (by have : (0 : Rat) < m := by exact_mod_cast (show 0 < m by omega)
                                  grind) (by have : ((2 : Nat) : Rat) ≤ m := by exact_mod_cast m0
                                             have h2 : ((2 : Nat) : Rat) = 2 := rfl
                                             grind)
      rw [this] at e2
      have h0 : ((0 : Int) : Rat) = 0 := rfl
      rw [h0] at e2
      grind
    refine ⟨[w, w + 1 / 7], h2, fun n => pre n _ ?_, ⟨⟨by simp, by simp, fun x hx => ?_, fun x hx => ?_, by decide, by decide, nd⟩, by simp, .inr ⟨w, b, rfl, b0, b4, gb⟩⟩, g2.mono (by omega)⟩
    · rw [loop_t (s1 := some h2) (s2 := some h2) (ρ' := [.v .hand, .v (.int m), .own (.lst ([w, w + 1 / 7].map fr)), u, v])]
      · exact t0 n _ (by simp)
      · simp only [EVa, EVb, EVc, EVd, EVn, List.length_map, List.length_cons, List.length_nil]
        rfl
      · simp only [EVa, EVb, EVc, EVd, EVn, List.map_cons, List.map_nil, fr_sev]
        rw [show n + 30 = (n + 18) + 12 by omega, law_add_ok _ _ _ _ (dw.sm w (by simp)) s7]
        simp only [EVa, EVb, EVc, EVd, EVn]
        rw [if_pos (by unfold lim; simp)]
        simp only [EVa, EVb, EVc, EVd, EVn]
        rfl
    · have gw := up84 b0 b4 gb
      simp at hx
      rcases hx with rfl | rfl
      · exact gw
      · exact gw.add g7
    · simp at hx
      have l := iw.lo
      have u := iw.hi
      have h1 : ((100 : Nat) : Rat) = 100 := rfl
      have h2 : ((1000 : Nat) : Rat) = 1000 := rfl
      rcases hx with rfl | rfl
      · exact iw.up (by decide)
      · exact ⟨by grind, by grind⟩
end
end Ev
set_option maxHeartbeats 1000000
/-! Pl87p: the program of the law. -/
namespace Ev
open PySem
def F_law_hand : Fn := ⟨1, 3, [.asg 1 (.comp [2] (.one 2) (.seq (.slice (.var 0) none (some (.int 63)))) none (.blt .abs [(.blt .int [(.var 2)])])), .ret (.lst [(.var 1), (.int 0), (.int 0), (.bin .add (.int 211) (.bin .mul (.int 151) (.blt .len [(.var 1)]))), (.int 0)])]⟩
def F_law_is_right : Fn := ⟨3, 16, [.par [(7, false), (8, false)] [(.new "Ring" [(.sub (.var 1) (.int 0)), (.sub (.var 1) (.int 1))]), (.blt .len [(.sub (.var 1) (.int 0))])], .asg 3 (.call "_law_drawn" [(.var 0), (.var 8)]), .for (.one 4) (.seq (.slice (.var 3) none (some (.int 3)))) [.asg 9 (.call "_law_any" [(.var 0), (.bin .add (.blt .list [(.var 3)]) (.lst [(.call "_law_add" [(.var 4), (.tup [(.var 8), (.int 1)])])]))]), .asg 10 (.call "_law_pairs" [(.var 1), (.var 4), (.var 9)]), .asg 11 (.comp [14, 15] (.tup [(.one 14), (.one 15)]) (.enum (.var 10)) (some (.e (.cmp .eq (.sub (.var 15) (.int 0)) (.sub (.var 15) (.int 1))))) (.var 14)), .iff (.not (.e (.call "_law_is" [(.lst [(.call "meet_after" [(.var 7), (.var 4), (.var 9)])]), (.lst [(.ite (.e (.cmp .ne (.var 11) (.lst []))) (.sub (.var 11) (.int 0)) .non)])]))) [.ret (.bl false)] [], .asg 12 (.sub (.call "_law_sorted" [(.comp [15] (.one 15) (.seq (.var 10)) none (.call "_law_near" [(.var 8), (.sub (.var 15) (.int 0)), (.sub (.var 15) (.int 1))]))]) (.int 0)), .iff (.any [(.not (.e (.call "_law_is" [(.call "nearest" [(.var 7), (.var 4), (.var 9)]), (.var 12)]))), (.e (.cmp .ne (.cmp .eq (.var 12) (.tup [(.int 0), (.int 1)])) (.cmp .ne (.var 11) (.lst []))))]) [.ret (.bl false)] []], .asg 5 (.bin .add (.int 1) (.call "_law_draw" [(.var 0), (.int 9)])), .iff (.not (.e (.call "_law_is" [(.call "order_of" [(.var 7), (.var 3)]), (.call "_law_order" [(.var 8), (.var 3)])]))) [.ret (.bl false)] [], .asg 6 (.call "_law_turn" [(.var 1), (.var 3), (.var 5)]), .iff (.not (.e (.call "_law_is" [(.lst [(.call "first_turn" [(.var 7), (.var 3), (.var 5)])]), (.lst [(.var 6)])]))) [.ret (.bl false)] [], .iff (.all [(.e (.var 2)), (.e (.cmp .isnot (.var 6) .non))]) [.asg 13 (.comp [4] (.one 4) (.seq (.var 3)) none (.call "_law_behind" [(.var 1), (.var 4), (.var 6)])), .ret (.notv (.call "_law_are_apart" [(.var 8), (.var 13)]))] [], .ret (.bl true)]⟩
def F_law_are_refused : Fn := ⟨2, 10, [.par [(6, false), (7, false)] [(.new "Ring" [(.sub (.var 1) (.int 0)), (.sub (.var 1) (.int 1))]), (.blt .len [(.sub (.var 1) (.int 0))])], .par [(8, false), (9, false)] [(.call "_law_any" [(.var 0), (.lst [(.call "_law_odd" [(.var 0)]), (.var 1), (.lst [(.var 6)])])]), (.call "_law_odd" [(.var 0)])], .asg 2 (.call "_law_drawn" [(.var 0), (.var 7)]), .asg 3 (.lst [.non, (.tup []), (.slice (.var 2) none (some (.int 1))), (.blt .list [(.var 2)]), (.bin .add (.var 2) (.slice (.var 2) none (some (.int 1)))), (.bin .add (.var 2) (.tup [(.var 9)])), (.int 0)]), .asg 3 (.call "_law_any" [(.var 0), (.bin .add (.var 3) (.lst [(.bin .add (.var 2) (.tup [(.call "_law_add" [(.sub (.var 2) (.int 0)), (.tup [(.var 7), (.int 1)])])])), (.bin .mul (.tup [(.tup [(.int 0), (.int 1)])]) (.int 9))]))]), .asg 4 (.call "_law_any" [(.var 0), (.lst [(.int 0), (.int 61), (.neg (.int 1)), .non, (.bl true), (.str "1")])]), .own 5 (.lst [(.word (.call "meet_after" [(.var 8), (.var 9), (.var 9)]))]), .app 5 (.word (.call "meet_after" [(.var 6), (.var 9), (.sub (.var 2) (.int 0))])), .app 5 (.word (.call "meet_after" [(.var 6), (.sub (.var 2) (.int 0)), (.var 9)])), .app 5 (.word (.call "nearest" [(.var 8), (.var 9), (.var 9)])), .app 5 (.word (.call "nearest" [(.var 6), (.sub (.var 2) (.int 0)), (.var 9)])), .app 5 (.word (.call "order_of" [(.var 8), (.var 3)])), .app 5 (.word (.call "order_of" [(.var 6), (.var 3)])), .app 5 (.word (.call "first_turn" [(.var 8), (.var 3), (.var 4)])), .app 5 (.word (.call "first_turn" [(.var 6), (.var 3), (.var 4)])), .app 5 (.word (.call "first_turn" [(.var 6), (.var 2), (.var 4)])), .ret (.cmp .eq (.var 5) (.lst [(.str "ring"), (.str "point"), (.str "point"), (.str "ring"), (.str "point"), (.str "ring"), (.str "walkers"), (.str "ring"), (.str "walkers"), (.str "number")]))]⟩
def F_law : Fn := ⟨1, 6, [.asg 1 (.call "_law_hand" [(.var 0)]), .asg 2 (.new "Ring" [(.tup [(.int 1), (.int 2), (.int 0)]), (.int 0)]), .iff (.any [(.e (.cmp .isnot (.call "meet_after" [(.var 2), (.tup [(.int 0), (.int 1)]), (.tup [(.int 1), (.int 1)])]) .non)), (.e (.cmp .ne (.call "order_of" [(.var 2), (.tup [(.tup [(.int 2), (.int 1)]), (.tup [(.int 0), (.int 1)]), (.tup [(.int 1), (.int 1)])])]) (.tup [(.int 0), (.int 1), (.int 2)])))]) [.ret (.bl false)] [], .for (.one 3) (.rng1 (.int 4)) [.par [(4, false), (5, false)] [(.call "_law_disk" [(.var 1), (.int 4)]), (.tup [(.call "_law_rising" [(.var 1), (.int 4)]), (.int 1)])], .iff (.any [(.not (.e (.call "_law_is_right" [(.var 1), (.var 4), (.bl false)]))), (.not (.e (.call "_law_is_right" [(.var 1), (.var 5), (.bl true)])))]) [.ret (.bl false)] [], .iff (.not (.e (.call "_law_are_refused" [(.var 1), (.var 4)]))) [.ret (.bl false)] []], .ret (.bl true)]⟩
def fnT : List (Str × Fn) := [(("is_integer" : Str), F_is_integer), (("is_between" : Str), F_is_between), (("common_divisor" : Str), F_common_divisor), (("fraction" : Str), F_fraction), (("whole" : Str), F_whole), (("minus" : Str), F_minus), (("is_less" : Str), F_is_less), (("is_fraction" : Str), F_is_fraction), (("in_order" : Str), F_in_order), (("check_ring" : Str), F_check_ring), (("check_point" : Str), F_check_point), (("dot_value" : Str), F_dot_value), (("value_at" : Str), F_value_at), (("alike_one" : Str), F_alike_one), (("apart_by" : Str), F_apart_by), (("distances" : Str), F_distances), (("check_points" : Str), F_check_points), (("meet_after" : Str), F_meet_after), (("nearest" : Str), F_nearest), (("are_walkers" : Str), F_are_walkers), (("check_walkers" : Str), F_check_walkers), (("raw_order" : Str), F_raw_order), (("order_of" : Str), F_order_of), (("first_turn" : Str), F_first_turn), (("_law_hand" : Str), F_law_hand), (("_law_any" : Str), F_law_any), (("_law_is" : Str), F_law_is), (("_law_low" : Str), F_law_low), (("_law_add" : Str), F_law_add), (("_law_sub" : Str), F_law_sub), (("_law_less" : Str), F_law_less), (("_law_rising" : Str), F_law_rising), (("_law_odd" : Str), F_law_odd), (("_law_disk" : Str), F_law_disk), (("_law_dot_of" : Str), F_law_dot_of), (("_law_to" : Str), F_law_to), (("_law_behind" : Str), F_law_behind), (("_law_on" : Str), F_law_on), (("_law_near" : Str), F_law_near), (("_law_sorted" : Str), F_law_sorted), (("_law_pairs" : Str), F_law_pairs), (("_law_order" : Str), F_law_order), (("_law_are_apart" : Str), F_law_are_apart), (("_law_turn" : Str), F_law_turn), (("_law_drawn" : Str), F_law_drawn), (("_law_is_right" : Str), F_law_is_right), (("_law_are_refused" : Str), F_law_are_refused)]
def glT : List (Str × D) := [("MOST_STEPS", .int 3000), ("MOST_WALK", .int 60), ("MOST_WALKERS", .int 8)]
def wdT : List (Str × Str) := [("NoRing", "ring"), ("NoPoint", "point"), ("NoWalkers", "walkers"), ("NoNumber", "number")]
def flT (c : Str) : List Str := if c = "Ring" then ["dots", "degree", "many"] else []
def exT : List Str := ["NoRing", "NoPoint", "NoWalkers", "NoNumber"]
noncomputable def Pk : Pg where
  fns := fun f => fnT.lookup f
  prim := fun f => if f = "_law_draw" then some (1, drawP) else none
  gl := fun x => glT.lookup x
  fl := flT
  fnB := fun f => decide (f = "_law_draw") || (fnT.map (·.1)).contains f
  clB := fun t => (["tuple", "list", "int", "bool", "str", "Ring"] : List Str).contains t
  exB := fun x => exT.contains x
  nwL := 5
  nw := fun c ds => if c = "Ring" then ringR ds else none
  wrd := fun o => match o with
    | none => some "let"
    | some x => wdT.lookup x
instance : Low Pk := ⟨Nat.le_refl 5⟩
instance : HasDraw Pk := ⟨rfl⟩
instance : RingFl Pk := ⟨rfl⟩
instance : RingNew Pk := ⟨fun ds => rfl⟩
instance : HasG Pk "MOST_STEPS" (.int 3000) := ⟨rfl⟩
instance : HasG Pk "MOST_WALK" (.int 60) := ⟨rfl⟩
instance : HasG Pk "MOST_WALKERS" (.int 8) := ⟨rfl⟩
instance : Has Pk "is_integer" F_is_integer := ⟨rfl, rfl⟩
instance : Has Pk "is_between" F_is_between := ⟨rfl, rfl⟩
instance : Has Pk "common_divisor" F_common_divisor := ⟨rfl, rfl⟩
instance : Has Pk "fraction" F_fraction := ⟨rfl, rfl⟩
instance : Has Pk "whole" F_whole := ⟨rfl, rfl⟩
instance : Has Pk "minus" F_minus := ⟨rfl, rfl⟩
instance : Has Pk "is_less" F_is_less := ⟨rfl, rfl⟩
instance : Has Pk "is_fraction" F_is_fraction := ⟨rfl, rfl⟩
instance : Has Pk "in_order" F_in_order := ⟨rfl, rfl⟩
instance : Has Pk "check_ring" F_check_ring := ⟨rfl, rfl⟩
instance : Has Pk "check_point" F_check_point := ⟨rfl, rfl⟩
instance : Has Pk "dot_value" F_dot_value := ⟨rfl, rfl⟩
instance : Has Pk "value_at" F_value_at := ⟨rfl, rfl⟩
instance : Has Pk "alike_one" F_alike_one := ⟨rfl, rfl⟩
instance : Has Pk "apart_by" F_apart_by := ⟨rfl, rfl⟩
instance : Has Pk "distances" F_distances := ⟨rfl, rfl⟩
instance : Has Pk "check_points" F_check_points := ⟨rfl, rfl⟩
instance : Has Pk "meet_after" F_meet_after := ⟨rfl, rfl⟩
instance : Has Pk "nearest" F_nearest := ⟨rfl, rfl⟩
instance : Has Pk "are_walkers" F_are_walkers := ⟨rfl, rfl⟩
instance : Has Pk "check_walkers" F_check_walkers := ⟨rfl, rfl⟩
instance : Has Pk "raw_order" F_raw_order := ⟨rfl, rfl⟩
instance : Has Pk "order_of" F_order_of := ⟨rfl, rfl⟩
instance : Has Pk "first_turn" F_first_turn := ⟨rfl, rfl⟩
instance : Has Pk "_law_hand" F_law_hand := ⟨rfl, rfl⟩
instance : Has Pk "_law_any" F_law_any := ⟨rfl, rfl⟩
instance : Has Pk "_law_is" F_law_is := ⟨rfl, rfl⟩
instance : Has Pk "_law_low" F_law_low := ⟨rfl, rfl⟩
instance : Has Pk "_law_add" F_law_add := ⟨rfl, rfl⟩
instance : Has Pk "_law_sub" F_law_sub := ⟨rfl, rfl⟩
instance : Has Pk "_law_less" F_law_less := ⟨rfl, rfl⟩
instance : Has Pk "_law_rising" F_law_rising := ⟨rfl, rfl⟩
instance : Has Pk "_law_odd" F_law_odd := ⟨rfl, rfl⟩
instance : Has Pk "_law_disk" F_law_disk := ⟨rfl, rfl⟩
instance : Has Pk "_law_dot_of" F_law_dot_of := ⟨rfl, rfl⟩
instance : Has Pk "_law_to" F_law_to := ⟨rfl, rfl⟩
instance : Has Pk "_law_behind" F_law_behind := ⟨rfl, rfl⟩
instance : Has Pk "_law_on" F_law_on := ⟨rfl, rfl⟩
instance : Has Pk "_law_near" F_law_near := ⟨rfl, rfl⟩
instance : Has Pk "_law_sorted" F_law_sorted := ⟨rfl, rfl⟩
instance : Has Pk "_law_pairs" F_law_pairs := ⟨rfl, rfl⟩
instance : Has Pk "_law_order" F_law_order := ⟨rfl, rfl⟩
instance : Has Pk "_law_are_apart" F_law_are_apart := ⟨rfl, rfl⟩
instance : Has Pk "_law_turn" F_law_turn := ⟨rfl, rfl⟩
instance : Has Pk "_law_drawn" F_law_drawn := ⟨rfl, rfl⟩
instance : Has Pk "_law_is_right" F_law_is_right := ⟨rfl, rfl⟩
instance : Has Pk "_law_are_refused" F_law_are_refused := ⟨rfl, rfl⟩
end Ev
set_option maxHeartbeats 4000000
/-! Pl87h: the law's first test. -/
namespace Ev
open PySem
def B_ir : List S := [.asg 9 (.call "_law_any" [(.var 0), (.bin .add (.blt .list [(.var 3)]) (.lst [(.call "_law_add" [(.var 4), (.tup [(.var 8), (.int 1)])])]))]), .asg 10 (.call "_law_pairs" [(.var 1), (.var 4), (.var 9)]), .asg 11 (.comp [14, 15] (.tup [(.one 14), (.one 15)]) (.enum (.var 10)) (some (.e (.cmp .eq (.sub (.var 15) (.int 0)) (.sub (.var 15) (.int 1))))) (.var 14)), .iff (.not (.e (.call "_law_is" [(.lst [(.call "meet_after" [(.var 7), (.var 4), (.var 9)])]), (.lst [(.ite (.e (.cmp .ne (.var 11) (.lst []))) (.sub (.var 11) (.int 0)) .non)])]))) [.ret (.bl false)] [], .asg 12 (.sub (.call "_law_sorted" [(.comp [15] (.one 15) (.seq (.var 10)) none (.call "_law_near" [(.var 8), (.sub (.var 15) (.int 0)), (.sub (.var 15) (.int 1))]))]) (.int 0)), .iff (.any [(.not (.e (.call "_law_is" [(.call "nearest" [(.var 7), (.var 4), (.var 9)]), (.var 12)]))), (.e (.cmp .ne (.cmp .eq (.var 12) (.tup [(.int 0), (.int 1)])) (.cmp .ne (.var 11) (.lst []))))]) [.ret (.bl false)] []]
theorem first_hit {α : Type} [DecidableEq α] {g : α → Rat} {p : α → Bool} : ∀ (W : List α) (k : Nat), (∀ a ∈ W, p a = true ↔ g a = 0) → ((W.zipIdx k).filter (fun x => p x.1)).map (·.2) = [] ∧ (0 : Rat) ∉ W.map g ∨ ∃ r, ((W.zipIdx k).filter (fun x => p x.1)).map (·.2) = (k + (W.map g).idxOf 0) :: r ∧ (0 : Rat) ∈ W.map g
  | [], k, _ => .inl ⟨rfl, by simp⟩
  | a :: W, k, h => by
    rw [List.zipIdx_cons, List.filter_cons, List.map_cons]
    have ha := h a (by simp)
    cases e : p a with
    | true =>
      have g0 := ha.mp e
      right
      refine ⟨((W.zipIdx (k + 1)).filter (fun x => p x.1)).map (·.2), ?_, by simp [g0]⟩
      simp [g0]
    | false =>
      have g0 : g a ≠ 0 := fun z => by rw [ha.mpr z] at e; cases e
      rcases first_hit W (k + 1) (fun b hb => h b (by simp [hb])) with ⟨h1, h2⟩ | ⟨r, h1, h2⟩
      · left
        refine ⟨by simpa using h1, ?_⟩
        simp only [List.mem_cons, not_or]
        exact ⟨fun z => g0 z.symm, h2⟩
      · right
        refine ⟨r, ?_, by simp only [List.mem_cons]; exact .inr h2⟩
        rw [List.idxOf_cons, show (g a == 0) = false by simpa using g0]
        simp only [Bool.false_eq_true, if_false]
        rw [h1]
        congr 1
        simp
        omega
theorem head_zero {l : List Rat} (h : ∀ x ∈ l, 0 ≤ x) {a : Rat} {r : List Rat} (e : sortU l = a :: r) : a = 0 ↔ (0 : Rat) ∈ l := by
  have hs := sortU_sorted l
  rw [e, List.pairwise_cons] at hs
  constructor
  · intro z
    rw [← z, ← mem_sortU, e]
    simp
  · intro z
    rw [← mem_sortU, e] at z
    rcases List.mem_cons.mp z with z | z
    · exact z.symm
    · have := hs.1 0 z
      have ha : a ∈ l := mem_sortU.mp (by rw [e]; simp)
      have := h a ha
      grind
theorem sortU_ne {l : List Rat} (h : l ≠ []) : ∃ a r, sortU l = a :: r := by
  cases e : sortU l with
  | cons a r => exact ⟨a, r, rfl⟩
  | nil =>
    obtain ⟨x, hx⟩ := List.exists_mem_of_ne_nil l h
    have := mem_sortU.mpr hx
    rw [e] at this
    simp at this
section
variable {vs : List Int} {d : Int}
theorem Dr.again {ws : List Rat} (h0 : 2 ≤ vs.length) (h4 : vs.length ≤ 4) (h : Dr vs.length ws) {w o : Rat} (hw : w ∈ ws) (ho : o ∈ ws ∨ o = w + (vs.length : Int)) : ∃ K, K ≤ 3000 ∧ Again (step2 vs d) (alk vs.length w, alk vs.length o) K := by
  have n0 : 0 < vs.length := by omega
  have bigP : ∀ {p q : Rat} {a b : Nat}, 0 < a → 0 < b → a ≤ 28 → b ≤ 28 → a ≤ 4 ∨ b ≤ 4 → Gr a p → Gr b q → ∃ K, K ≤ 3000 ∧ Again (step2 vs d) (alk vs.length p, alk vs.length q) K := by
    intro p q a b a0 b0 a1 b1 ab ga gb
    obtain ⟨K, k1, k2⟩ := pair_again (d := d) n0 a0 b0 (Pt.alk n0 ga) (Pt.alk n0 gb)
    refine ⟨K, Nat.le_trans k1 ?_, k2⟩
    rcases ab with z | z
    · exact Nat.le_trans (Nat.mul_le_mul (Nat.mul_le_mul h4 z) (Nat.mul_le_mul h4 b1)) (by decide)
    · exact Nat.le_trans (Nat.mul_le_mul (Nat.mul_le_mul h4 a1) (Nat.mul_le_mul h4 z)) (by decide)
  have rnd : ∀ w : Rat, alk vs.length (w + (vs.length : Int)) = alk vs.length w := fun w => by
    rw [alk_iff n0]
    refine ⟨1, ?_⟩
    have : ((1 : Int) : Rat) = 1 := rfl
    have e : ((vs.length : Int) : Rat) = (vs.length : Rat) := rfl
    rw [this, e]
    grind
  have main : ∀ o ∈ ws, ∃ K, K ≤ 3000 ∧ Again (step2 vs d) (alk vs.length w, alk vs.length o) K := by
    intro o ho
    rcases h.pr with hp | ⟨w0, b, rfl, b0, b4, gb⟩
    · obtain ⟨a, a0, a4, ga⟩ := hp w hw
      obtain ⟨b, b0, b4, gb⟩ := hp o ho
      exact bigP a0 b0 (by omega) (by omega) (.inl a4) ga gb
    · have g7 : Gr (b * 7) (w0 + 1 / 7) := by
        refine (gb.up (Nat.dvd_mul_right b 7)).add ?_
        have e : (1 / 7 : Rat) = ((1 : Int) : Rat) / ((7 : Int) : Rat) := rfl
        rw [e]
        exact (div_gr (a := 1) (b := 7) (by decide)).up (Nat.dvd_mul_left 7 b)
      simp at hw ho
      rcases hw with q1 | q1 <;> rcases ho with q2 | q2 <;> rw [q1, q2]
      · exact bigP b0 b0 (by omega) (by omega) (.inl b4) gb gb
      · exact bigP b0 (by omega) (by omega) (by omega) (.inl b4) gb g7
      · exact bigP (by omega) b0 (by omega) (by omega) (.inr b4) g7 gb
      · obtain ⟨K, k1, k2⟩ := same_again (d := d) n0 (show 0 < b * 7 by omega) (Pt.alk n0 g7)
        exact ⟨K, Nat.le_trans k1 (Nat.le_trans (Nat.mul_le_mul h4 (show b * 7 ≤ 28 by omega)) (by decide)), k2⟩
  rcases ho with ho | rfl
  · exact main o ho
  · rw [rnd]
    exact main w hw
theorem walkL_mem {x p : Rat × Rat} {K : Nat} (hn : 0 < vs.length) {m : Nat} (h1 : Pt vs.length m x.1) (h2 : Pt vs.length m x.2) (h : p ∈ walkL (step2 vs d) x K) : Pt vs.length m p.1 ∧ Pt vs.length m p.2 := by
  unfold walkL at h
  obtain ⟨i, _, rfl⟩ := List.mem_map.mp h
  exact step_pt hn h1 h2 i
theorem ir_loop (r : Rok vs d) (h4 : vs.length ≤ 4) {ws : List Rat} (dr : Dr vs.length ws) (x2 x5 x6 x13 : Sl) : ∀ (l : List Rat) (u9 u10 u11 u12 u4 : Sl) (h : Hand) (c : Int), HandG h c → c + l.length < 2 ^ 55 → (∀ w ∈ l, w ∈ ws) → ∃ (v4 v9 v10 v11 v12 : Sl) (h' : Hand), (∀ n, forGo (forK (cfOf Pk (n + 60)) (.one 4) B_ir) (l.map fr) [.v .hand, .v (diskD vs d), x2, .v (.tup (ws.map fr)), u4, x5, x6, .v (ringD vs d), .v (.int vs.length), u9, u10, u11, u12, x13, .no, .no] (some h) = ok (.nx [.v .hand, .v (diskD vs d), x2, .v (.tup (ws.map fr)), v4, x5, x6, .v (ringD vs d), .v (.int vs.length), v9, v10, v11, v12, x13, .no, .no]) (some h')) ∧ HandG h' (c + l.length) := by
  intro l
  induction l with
  | nil =>
    intro u9 u10 u11 u12 u4 h c g hc hl
    exact ⟨u4, u9, u10, u11, u12, h, fun n => rfl, by simpa using g⟩
  | cons w l ih =>
    intro u9 u10 u11 u12 u4 h c g hc hl
    have rg := r.rg
    have n0 := rg.ne
    have hw := hl w (by simp)
    have wsm := dr.wk.sm w hw
    have wl := dr.wk.len
    have nsm : Sm ((vs.length : Int) : Rat) := nat_sm rg.len
    obtain ⟨x, h1, e1, hx, g1⟩ := any_call (P := Pk) (xs := ws.map fr ++ [fr (w + (vs.length : Int))]) g (by simp at hc; omega) (by simp) (by simp; omega)
    have hxo : ∃ o, x = fr o ∧ (o ∈ ws ∨ o = w + (vs.length : Int)) := by
      rcases List.mem_append.mp hx with hx | hx
      · obtain ⟨o, ho, rfl⟩ := List.mem_map.mp hx
        exact ⟨o, rfl, .inl ho⟩
      · simp at hx
        exact ⟨_, hx, .inr rfl⟩
    obtain ⟨o, rfl, ho⟩ := hxo
    have gw : Gr 84 w := dr.wk.gr w hw
    have go : Gr 84 o := by
      rcases ho with ho | rfl
      · exact dr.wk.gr o ho
      · exact gw.add (Gr.int 84 _)
    have io : In 1008 o := by
      have h1 : ((1000 : Nat) : Rat) = 1000 := rfl
      have h2 : ((1008 : Nat) : Rat) = 1008 := rfl
      have h3 : ((8 : Nat) : Rat) = 8 := rfl
      have hn' : ((vs.length : Nat) : Rat) ≤ ((8 : Nat) : Rat) := by exact_mod_cast rg.len
      have e : ((vs.length : Int) : Rat) = (vs.length : Rat) := rfl
      have n1 : (0 : Rat) ≤ (vs.length : Rat) := by exact_mod_cast Nat.zero_le _
      rcases ho with ho | rfl
      · exact (dr.wk.inn o ho).up (by decide)
      · have := (dr.wk.inn w hw).lo
        have := (dr.wk.inn w hw).hi
        exact ⟨by grind, by grind⟩
    have osm : Sm o := sm_of io go (by decide) (by decide) (by decide)
    obtain ⟨K, hK, ag⟩ := dr.again (d := d) r.two h4 hw ho
    have pts : ∀ p ∈ walkL (step2 vs d) (alk vs.length w, alk vs.length o) K, Pt vs.length 84 p.1 ∧ Pt vs.length 84 p.2 := fun p hp => walkL_mem n0 (Pt.alk n0 gw) (Pt.alk n0 go) hp
    have kp := again_pos ag
    have wkl : (walkL (step2 vs d) (alk vs.length w, alk vs.length o) K).length = K := walkL_len _ _ _
    have mt := fun n s => meet_after_ok (P := Pk) n s rg (m := 84) (by decide) (by decide) wsm osm gw go hK ag
    have pa := fun n s => pairs_ok (P := Pk) n s rg (m := 84) (by decide) (by decide) wsm osm gw go hK ag
    have nr := fun n s a r h1 h2 => nearest_ok (P := Pk) n s rg (m := 84) (by decide) (by decide) wsm osm gw go hK ag (a := a) (r := r) h1 h2
    generalize walkL (step2 vs d) (alk vs.length w, alk vs.length o) K = W at pts wkl mt pa nr
    have nz : ∀ a ∈ W, decide (a.1 = a.2) = true ↔ nearR vs.length a.1 a.2 = 0 := fun a ha => by
      obtain ⟨p1, p2⟩ := pts a ha
      rw [nearR_zero n0, alk_self p1.lo p1.hi, alk_self p2.lo p2.hi, decide_eq_true_eq]
    have dsm : ∀ x ∈ disR vs.length W, Sm x := by
      intro x hx
      obtain ⟨a, ha, rfl⟩ := List.mem_map.mp hx
      obtain ⟨p1, p2⟩ := pts a ha
      exact near_sm n0 p1 p2 rg.len (by decide) (by decide)
    have dnn : ∀ x ∈ disR vs.length W, 0 ≤ x := by
      intro x hx
      obtain ⟨a, ha, rfl⟩ := List.mem_map.mp hx
      exact nearR_nonneg n0 _ _
    have dlen : (disR vs.length W).length = K := by unfold disR; rw [List.length_map, wkl]
    obtain ⟨a, rr, hs⟩ := sortU_ne (l := disR vs.length W) (by intro z; rw [z] at dlen; simp at dlen; omega)
    have nr' := fun n s => nr n s a rr hs dsm
    have asm : Sm a := dsm a (mem_sortU.mp (by rw [hs]; simp))
    have hz := head_zero dnn hs
    obtain ⟨v4, v9, v10, v11, v12, h', e2, g2⟩ := ih (.v (fr o)) (.v (.lst (W.map pr))) (.v (.lst (((W.zipIdx.filter fun x => decide (x.1.1 = x.1.2)).map (·.2)).map natD))) (.v (fr a)) (.v (fr w)) h1 (c + 1) g1 (by simp at hc; omega) (fun w hw => hl w (by simp [hw]))
    refine ⟨v4, v9, v10, v11, v12, h', fun n => ?_, by rw [show c + ((w :: l).length : Int) = c + 1 + l.length by simp; omega]; exact g2⟩
    rw [List.map_cons, ← e2 n]
    simp only [EVf, EVa, EVb, EVc, EVd, EVn, B_ir, fr_int]
    rw [show n + 60 = (n + 48) + 12 by omega, law_add_ok _ _ _ _ wsm nsm]
    simp only [EVf, EVa, EVb, EVc, EVd, EVn]
    rw [add_l (by simp; omega)]
    simp only [EVf, EVa, EVb, EVc, EVd, EVn]
    rw [show n + 48 + 12 = (n + 54) + 6 by omega, e1]
    simp only [EVf, EVa, EVb, EVc, EVd, EVn]
    rw [show n + 54 + 6 = (n + 29) + 31 by omega, pa]
    simp only [EVf, EVa, EVb, EVc, EVd, EVn, enD_map]
    rw [if_lim (by simp; omega), mapGo_filter (e := fun p : (Rat × Rat) × Nat => .tup [.int (p.2 : Nat), pr p.1]) (g := fun p => natD p.2) (p := fun p => decide (p.1.1 = p.1.2)) (by
      intro p hp
      simp only [EVf, EVa, EVb, EVc, EVd, EVn, pr]
      by_cases z : p.1.1 = p.1.2
      · simp only [EVf, EVa, EVb, EVc, EVd, EVn, enc_fr.eq_t (by decide) z, decide_eq_true z, if_pos]
        rfl
      · simp only [EVf, EVa, EVb, EVc, EVd, EVn, enc_fr.eq_f (by decide) z, decide_eq_false z]
        rfl)]
    have mm : (W.zipIdx.filter fun p => decide (p.1.1 = p.1.2)).map (fun p => natD p.2) = ((W.zipIdx.filter fun x => decide (x.1.1 = x.1.2)).map (·.2)).map natD := by rw [List.map_map]; rfl
    rw [mm]
    simp only [EVf, EVa, EVb, EVc, EVd, EVn]
    have fh := first_hit (g := fun a => nearR vs.length a.1 a.2) (p := fun a => decide (a.1 = a.2)) W 0 nz
    have key : ∃ (X : D) (b : Bool), optD (if (0 : Rat) ∈ disR vs.length W then some ((disR vs.length W).idxOf 0) else none) = X ∧ Plnd 2 (.lst [X]) ∧ cmpD .ne (.lst ((((W.zipIdx.filter fun x => decide (x.1.1 = x.1.2)).map (·.2))).map natD)) (.lst []) = some (.bl b) ∧ cmpD .eq (fr a) (fr 0) = some (.bl b) ∧ (b = true → subD (.lst ((((W.zipIdx.filter fun x => decide (x.1.1 = x.1.2)).map (·.2))).map natD)) (.int 0) = some X) ∧ (b = false → X = .non) := by
      rcases fh with ⟨f1, f2⟩ | ⟨r2, f1, f2⟩
      · have f2 : (0 : Rat) ∉ disR vs.length W := f2
        refine ⟨.non, false, ?_, ⟨by simp, fun x hx => by simp at hx; subst hx; trivial⟩, ?_, ?_, fun z => (by cases z), fun _ => rfl⟩
        · rw [if_neg f2]; rfl
        · exact (enc_lst enc_nat).ne_f (a := ((W.zipIdx.filter fun x => decide (x.1.1 = x.1.2)).map (·.2))) (b := []) (by decide) f1
        · exact enc_fr.eq_f (by decide) fun z => f2 (hz.mp z)
      · have f2 : (0 : Rat) ∈ disR vs.length W := f2
        have il : (disR vs.length W).idxOf 0 < 3001 := by
          have := List.idxOf_lt_length_of_mem f2
          unfold disR at this ⊢
          simp at this ⊢
          omega
        refine ⟨natD ((disR vs.length W).idxOf 0), true, ?_, ⟨by simp, fun x hx => by simp at hx; subst hx; show ((((disR vs.length W).idxOf 0 : Nat) : Int)).natAbs < 2 ^ 250; omega⟩, ?_, ?_, fun _ => ?_, fun z => by cases z⟩
        · rw [if_pos f2]; rfl
        · exact (enc_lst enc_nat).ne_t (a := ((W.zipIdx.filter fun x => decide (x.1.1 = x.1.2)).map (·.2))) (b := []) (by decide) (by
            intro z
            have f1 : ((W.zipIdx.filter fun x => decide (x.1.1 = x.1.2)).map (·.2)) = _ := f1
            rw [f1] at z
            cases z)
        · exact enc_fr.eq_t (by decide) (hz.mpr f2)
        · have f1 : ((W.zipIdx.filter fun x => decide (x.1.1 = x.1.2)).map (·.2)) = _ := f1
          rw [f1, List.map_cons, sub_l0, Nat.zero_add]
          rfl
    obtain ⟨X, b, k1, k2, k3, k4, k5, k6⟩ := key
    rw [show n + 29 + 31 = (n + 10) + 50 by omega, mt, k1]
    simp only [EVf, EVa, EVb, EVc, EVd, EVn, k3]
    have isX : ∀ n s, call Pk (n + 8) "_law_is" [.lst [X], .lst [X]] s = ok (.bl true) s := fun n s => law_is_refl s 2 n _ k2
    have near : ∀ ρ : Env, ρ.at 8 = .v (.int vs.length) → ρ.length = 16 → ∀ s, mapGo (compF (cfOf Pk (n + 10 + 50)) [15] (.one 15) none (.call "_law_near" [(.var 8), (.sub (.var 15) (.int 0)), (.sub (.var 15) (.int 1))]) ρ) (W.map pr) s = ok ((disR vs.length W).map fr) s := by
      intro ρ h8 hl s
      match ρ, hl with
      | [a0, b0, c0, d0, e0, f0, g0, i0, j0, l0, m0, n0', o0, p0, q0, r0], _ =>
        have h8 : j0 = .v (.int vs.length) := h8
        subst h8
        rw [mapGo_map (e := pr) (g := fun p => fr (nearR vs.length p.1 p.2)) (by
          intro p hp
          obtain ⟨p1, p2⟩ := pts p hp
          simp only [EVa, EVb, EVc, EVd, EVn, pr]
          rw [show n + 10 + 50 = (n + 36) + 24 by omega, law_near_ok _ _ n0 rg.len (by decide) (by decide) p1 p2]
          simp only [EVa, EVb, EVc, EVd, EVn])]
        unfold disR
        rw [List.map_map]
        rfl
    have bb : cmpD .ne (.bl b) (.bl b) = some (.bl false) := enc_bl.ne_f (by decide) rfl
    have ana : ∀ n s, call Pk (n + 7) "_law_is" [fr a, fr a] s = ok (.bl true) s := fun n s => law_is_refl s 1 n _ (plnd_fr asm)
    cases b
    · have k6 := k6 rfl
      subst k6
      simp only [EVf, EVa, EVb, EVc, EVd, EVn]
      rw [show n + 10 + 50 = (n + 52) + 8 by omega, isX]
      rw [show n + 52 + 8 = n + 10 + 50 by omega]
      simp only [EVf, EVa, EVb, EVc, EVd, EVn, Bool.not_true, it_l]
      rw [if_lim (by simp; omega), near _ rfl rfl]
      simp only [EVf, EVa, EVb, EVc, EVd, EVn]
      rw [show n + 10 + 50 = (n + 53) + 7 by omega, law_sorted_ok _ _ _ dsm (by omega), hs]
      simp only [EVf, EVa, EVb, EVc, EVd, EVn, List.map_cons]
      rw [show n + 53 + 7 = (n + 10) + 50 by omega, nr']
      simp only [EVf, EVa, EVb, EVc, EVd, EVn]
      rw [show n + 10 + 50 = (n + 53) + 7 by omega, ana]
      simp only [EVf, EVa, EVb, EVc, EVd, EVn, Bool.not_true, fr_zero, k4, k3, bb]
    · have k5 := k5 rfl
      simp only [EVf, EVa, EVb, EVc, EVd, EVn, k5]
      rw [show n + 10 + 50 = (n + 52) + 8 by omega, isX]
      rw [show n + 52 + 8 = n + 10 + 50 by omega]
      simp only [EVf, EVa, EVb, EVc, EVd, EVn, Bool.not_true, it_l]
      rw [if_lim (by simp; omega), near _ rfl rfl]
      simp only [EVf, EVa, EVb, EVc, EVd, EVn]
      rw [show n + 10 + 50 = (n + 53) + 7 by omega, law_sorted_ok _ _ _ dsm (by omega), hs]
      simp only [EVf, EVa, EVb, EVc, EVd, EVn, List.map_cons]
      rw [show n + 53 + 7 = (n + 10) + 50 by omega, nr']
      simp only [EVf, EVa, EVb, EVc, EVd, EVn]
      rw [show n + 10 + 50 = (n + 53) + 7 by omega, ana]
      simp only [EVf, EVa, EVb, EVc, EVd, EVn, Bool.not_true, fr_zero, k4, k3, bb]
theorem ordT_plnd {l : List Rat} (h : l.length ≤ 1000) : Plnd 1 (ordT (ordN l)) := by
  have sl : (sortU l).length ≤ 1000 := by
    have := ((sortU_sorted l).imp fun h => Rat.ne_of_lt h : (sortU l).Pairwise (· ≠ ·))
    have := List.Nodup.length_le_of_subset (l₁ := sortU l) (l₂ := l) this fun a h => mem_sortU.mp h
    omega
  refine ⟨by simp [ordN]; omega, fun x hx => ?_⟩
  obtain ⟨i, hi, rfl⟩ := List.mem_map.mp hx
  obtain ⟨g, hg, rfl⟩ := List.mem_map.mp hi
  have := List.idxOf_lt_length_of_mem (mem_sortU.mp hg)
  show (((l.idxOf g : Nat) : Int)).natAbs < 2 ^ 250
  omega
theorem is_right_ok (r : Rok vs d) (h4 : vs.length ≤ 4) (b : Bool) (hb : b = true → d = 1 ∧ Ris vs) {h : Hand} {c : Int} (g : HandG h c) (hc : c < 2 ^ 49) : ∃ h' : Hand, (∀ n, call Pk (n + 66) "_law_is_right" [.hand, diskD vs d, .bl b] (some h) = ok (.bl true) (some h')) ∧ HandG h' (c + 100) := by
  have rg := r.rg
  have n0 := rg.ne
  obtain ⟨ws, h1, e1, dr, g1⟩ := drawn_ok (P := Pk) (m := vs.length) g (by omega) r.two h4
  have wk := dr.wk
  obtain ⟨v4, v9, v10, v11, v12, h2, e2, g2⟩ := ir_loop r h4 dr (.v (.bl b)) .no .no .no (ws.take 3) .no .no .no .no .no h1 (c + 20) g1 (by simp; omega) (fun w hw => List.mem_of_mem_take hw)
  obtain ⟨t, h3, e3, t1, t2, g3⟩ := draw_call (P := Pk) (m := 9) g2 (by simp; omega) (by decide)
  obtain ⟨t, rfl⟩ : ∃ k : Nat, t = k := ⟨t.toNat, by omega⟩
  have w2 := wk.two
  have w5 := dr.len
  have gn := (gone_nodup n0 ws).mpr wk.nd
  have gl : (gone vs.length ws).length ≤ 1000 := by simp [gone]; omega
  have isO : ∀ n s, call Pk (n + 7) "_law_is" [ordT (ordN (gone vs.length ws)), ordT (ordN (gone vs.length ws))] s = ok (.bl true) s := fun n s => law_is_refl s 1 n _ (ordT_plnd gl)
  have opl : Plnd 2 (.lst [optD (fstT (tst vs d ws) (1 + t) 0)]) := by
    refine ⟨by simp, fun x hx => ?_⟩
    simp at hx
    subst hx
    cases e : fstT (tst vs d ws) (1 + t) 0 with
    | none => trivial
    | some k =>
      obtain ⟨_, k2, _⟩ := fstT_some e
      show ((k : Nat) : Int).natAbs < 2 ^ 250
      omega
  have isT : ∀ n s, call Pk (n + 8) "_law_is" [.lst [optD (fstT (tst vs d ws) (1 + t) 0)], .lst [optD (fstT (tst vs d ws) (1 + t) 0)]] s = ok (.bl true) s := fun n s => law_is_refl s 2 n _ opl
  refine ⟨h3, fun n => ?_, g3.mono (by simp; omega)⟩
  rw [call_has "_law_is_right" (n + 60) _ _ rfl]
  simp only [F_law_is_right, EVf, EVa, EVb, EVc, EVd, EVn, diskD, new_ok r, List.length_map]
  rw [show n + 60 + 5 = (n + 34) + 31 by omega, e1]
  simp only [EVf, EVa, EVb, EVc, EVd, EVn]
  rw [show (3 : Int) = ((3 : Nat) : Int) from rfl, slice_tot, ← List.map_take]
  simp only [EVf, EVa, EVb, EVc, EVd, EVn, it_t]
  have e2' := e2 (n + 5)
  simp only [B_ir, diskD] at e2'
  rw [show n + 34 + 31 = n + 5 + 60 by omega, e2']
  simp only [EVf, EVa, EVb, EVc, EVd, EVn]
  rw [show n + 5 + 60 = (n + 64) + 1 by omega, e3]
  simp only [EVf, EVa, EVb, EVc, EVd, EVn]
  rw [show n + 64 + 1 = (n + 29) + 36 by omega, order_of_ok _ _ rg wk]
  simp only [EVf, EVa, EVb, EVc, EVd, EVn]
  rw [show n + 29 + 36 = (n + 47) + 18 by omega, law_order_ok _ _ n0 rg.len wk.m0 wk.m1 (by omega) (by omega) wk.sm wk.gr gn _ (.inl rfl), ordL_eq, show D.tup ((ordN (gone vs.length ws)).map natD) = ordT (ordN (gone vs.length ws)) from rfl]
  simp only [EVf, EVa, EVb, EVc, EVd, EVn]
  rw [show n + 47 + 18 = (n + 58) + 7 by omega, isO]
  simp only [EVf, EVa, EVb, EVc, EVd, EVn, Bool.not_true]
  rw [show (1 + (t : Int)) = ((1 + t : Nat) : Int) by omega]
  have lt := fun n s => law_turn_ok (P := Pk) n s rg wk (N := 1 + t) (by omega)
  simp only [diskD] at lt
  rw [show n + 58 + 7 = (n + 29) + 36 by omega, lt]
  simp only [EVf, EVa, EVb, EVc, EVd, EVn]
  rw [first_turn_ok (P := Pk) _ _ rg wk (by omega) (by omega)]
  simp only [EVf, EVa, EVb, EVc, EVd, EVn]
  rw [show n + 29 + 36 = (n + 57) + 8 by omega, isT]
  simp only [EVf, EVa, EVb, EVc, EVd, EVn, Bool.not_true]
  cases b with
  | false => simp only [EVf, EVa, EVb, EVc, EVd, EVn]
  | true =>
    obtain ⟨rfl, ris⟩ := hb rfl
    cases e : fstT (tst vs 1 ws) (1 + t) 0 with
    | none =>
      have c : cmpD .isnot .non .non = some (.bl false) := rfl
      simp only [EVf, EVa, EVb, EVc, EVd, EVn, optD, c]
    | some k =>
      obtain ⟨_, k2, _⟩ := fstT_some e
      have c : cmpD .isnot (natD k) .non = some (.bl true) := rfl
      have nm := turn_meets ris (by omega) gn e
      simp only [EVf, EVa, EVb, EVc, EVd, EVn, optD, c, it_t]
      have be := fun n s w hw => behind_ok (P := Pk) n s rg wk.m0 wk.m1 (wk.gr w hw) (wk.inn w hw) (show k ≤ 9 by omega)
      simp only [diskD] at be
      rw [if_lim (by simp; omega), show n + 57 + 8 = (n + 47) + 18 by omega, mapGo_map (e := fr) (g := fun w => fr (it (val vs 1) k w)) (by
        intro w hw
        simp only [EVf, EVa, EVb, EVc, EVd, EVn, be _ _ w hw])]
      have mm : ws.map (fun w => fr (it (val vs 1) k w)) = (hereK vs 1 ws k).map fr := by unfold hereK; rw [List.map_map]; rfl
      rw [mm]
      simp only [EVf, EVa, EVb, EVc, EVd, EVn]
      rw [are_apart_ok _ _ n0 rg.len (by simp [hereK]; omega) ((hereK_ok rg wk (show k ≤ 9 by omega)).sm wk.m0 wk.m1) _ (.inr rfl), decide_eq_false nm]
      simp only [EVf, EVa, EVb, EVc, EVd, EVn, Bool.not_false]
end
end Ev
set_option maxHeartbeats 4000000
/-! Pl87i: the law's second test, the law. -/
namespace Ev
open PySem
theorem word_ex {e : C} {ρ : Env} {x w : Str} {h : Hand} (k : Nat) (h1 : evE (cfOf Pk (k + 5)) e ρ (some h) = some (.ex ⟨x, none⟩, some h)) (h2 : wdT.lookup x = some w) : evE (cfOf Pk (k + 5 + 2)) (.word e) ρ (some h) = ok (.str w) (some h) := by
  rw [wd_eq, if_pos ⟨by show 5 ≤ k + 5; omega, rfl⟩, h1]
  show lift ((wdT.lookup x).map D.str) (some h) = _
  rw [h2]
  rfl
def Badw (vs : List Int) (d : Int) (w : D) : Prop := ∀ n s, call Pk (n + 24) "are_walkers" [ringD vs d, w] s = ok (.bl false) s
theorem mul9 : binD .mul (.tup [fr 0]) (.int 9) = some (.tup [fr 0, fr 0, fr 0, fr 0, fr 0, fr 0, fr 0, fr 0, fr 0]) := rfl
section
variable {vs : List Int} {d : Int}
theorem bad_no {w : D} (h : Thing w) (h2 : isTup w = false) : Badw vs d w := fun n s => are_walkers_no (P := Pk) (n + 18) s _ h h2
theorem bad_few {ds : List D} (h : ds.length < 2 ∨ 8 < ds.length) : Badw vs d (.tup ds) := fun n s => are_walkers_few (P := Pk) (n + 18) s _ h
theorem bad_dup (l0 : 0 < vs.length) (l1 : vs.length ≤ 8) {ws : List Rat} (h : 2 ≤ ws.length ∧ ws.length ≤ 8) (hs : ∀ w ∈ ws, Sm w) (nd : ¬ (ws.map (alk vs.length)).Nodup) : Badw vs d (.tup (ws.map fr)) := fun n s => by
  rw [are_walkers_ok (P := Pk) n s l0 l1 h hs, decide_eq_false nd]
theorem bad_odd {ds : List D} (h : 2 ≤ ds.length ∧ ds.length ≤ 8) (hp : ∀ x ∈ ds, Pty x) (hf : ∃ x ∈ ds, isFrac x = false) : Badw vs d (.tup ds) := fun n s => are_walkers_odd (P := Pk) (n + 6) s _ h hp hf
theorem refused_ok (r : Rok vs d) (h4 : vs.length ≤ 4) {h : Hand} {c : Int} (g : HandG h c) (hc : c < 2 ^ 49) : ∃ h' : Hand, (∀ n, call Pk (n + 66) "_law_are_refused" [.hand, diskD vs d] (some h) = ok (.bl true) (some h')) ∧ HandG h' (c + 200) := by
  have rg := r.rg
  have n0 := rg.ne
  obtain ⟨o1, h1, e1, od1, g1⟩ := odd_call (P := Pk) g (by omega)
  obtain ⟨N, h2, e2, hN, g2⟩ := any_call (P := Pk) (xs := [o1, diskD vs d, .lst [ringD vs d]]) g1 (by omega) (by simp) (by simp)
  have tN : Thing N ∧ isRing N = false := by
    simp only [List.mem_cons, List.not_mem_nil, or_false] at hN
    rcases hN with rfl | rfl | rfl
    · exact ⟨od1.pty.1, od1.ring⟩
    · exact ⟨trivial, rfl⟩
    · exact ⟨trivial, rfl⟩
  obtain ⟨o, h3, e3, od, g3⟩ := odd_call (P := Pk) g2 (by omega)
  obtain ⟨ws, h4', e4, dr, g4⟩ := drawn_ok (P := Pk) (m := vs.length) g3 (by omega) r.two h4
  have wk := dr.wk
  have w2 := wk.two
  have w5 := dr.len
  obtain ⟨w0, wr, hws⟩ : ∃ w0 wr, ws = w0 :: wr := by
    cases ws with
    | nil => simp at w2
    | cons a r => exact ⟨a, r, rfl⟩
  have sm0 : Sm w0 := wk.sm w0 (by rw [hws]; simp)
  have nsm : Sm ((vs.length : Int) : Rat) := nat_sm rg.len
  have sm1 : Sm (w0 + ((vs.length : Int) : Rat)) := by
    have g0 : Gr 84 w0 := wk.gr w0 (by rw [hws]; simp)
    have i0 := wk.inn w0 (by rw [hws]; simp)
    have h1 : ((1000 : Nat) : Rat) = 1000 := rfl
    have h2 : ((1008 : Nat) : Rat) = 1008 := rfl
    have h3 : ((8 : Nat) : Rat) = 8 := rfl
    have hn' : ((vs.length : Nat) : Rat) ≤ ((8 : Nat) : Rat) := by exact_mod_cast rg.len
    have e : ((vs.length : Int) : Rat) = (vs.length : Rat) := rfl
    have n1 : (0 : Rat) ≤ (vs.length : Rat) := by exact_mod_cast Nat.zero_le _
    have := i0.lo
    have := i0.hi
    exact sm_of (B := 1008) ⟨by grind, by grind⟩ (g0.add (Gr.int 84 _)) (by decide) (by decide) (by decide)
  obtain ⟨B, h5, e5, hB, g5⟩ := any_call (P := Pk) (xs := [.non, .tup [], .tup ((ws.map fr).take 1), .lst (ws.map fr), .tup (ws.map fr ++ (ws.map fr).take 1), .tup (ws.map fr ++ [o]), .int 0] ++ [.tup (ws.map fr ++ [fr (w0 + ((vs.length : Int) : Rat))]), .tup [fr 0, fr 0, fr 0, fr 0, fr 0, fr 0, fr 0, fr 0, fr 0]]) g4 (by omega) (by simp) (by simp)
  have bB : Badw vs d B := by
    simp only [List.cons_append, List.nil_append, List.mem_cons, List.not_mem_nil, or_false] at hB
    rcases hB with rfl | rfl | rfl | rfl | rfl | rfl | rfl | rfl | rfl
    · exact bad_no trivial rfl
    · exact bad_few (by simp)
    · exact bad_few (by simp; omega)
    · exact bad_no trivial rfl
    · rw [← List.map_take, ← List.map_append]
      refine bad_dup n0 rg.len (by simp; omega) (fun w hw => ?_) ?_
      · rcases List.mem_append.mp hw with hw | hw
        · exact wk.sm w hw
        · exact wk.sm w (List.mem_of_mem_take hw)
      · rw [hws]
        simp
    · refine bad_odd (by simp; omega) (fun x hx => ?_) ⟨o, by simp, od.frac⟩
      rcases List.mem_append.mp hx with hx | hx
      · obtain ⟨w, _, rfl⟩ := List.mem_map.mp hx
        exact pty_fr w
      · simp at hx; subst hx; exact od.pty
    · exact bad_no trivial rfl
    · rw [show ws.map fr ++ [fr (w0 + ((vs.length : Int) : Rat))] = (ws ++ [w0 + ((vs.length : Int) : Rat)]).map fr by simp]
      refine bad_dup n0 rg.len (by simp; omega) (fun w hw => ?_) ?_
      · rcases List.mem_append.mp hw with hw | hw
        · exact wk.sm w hw
        · simp at hw; subst hw; exact sm1
      · have : alk vs.length (w0 + ((vs.length : Int) : Rat)) = alk vs.length w0 := by
          rw [alk_iff n0]
          refine ⟨1, ?_⟩
          have : ((1 : Int) : Rat) = 1 := rfl
          have e : ((vs.length : Int) : Rat) = (vs.length : Rat) := rfl
          rw [this, e]
          grind
        rw [hws, List.map_append, List.map_cons, List.map_cons, List.map_nil, this]
        simp
    · exact bad_few (by simp)
  obtain ⟨T, h6, e6, hT, g6⟩ := any_call (P := Pk) (xs := [.int 0, .int 61, .int (-1), .non, .bl true, .str "1"]) g5 (by omega) (by simp) (by simp)
  have tT : Thing T ∧ isBet T 1 60 = false := by
    simp only [List.mem_cons, List.not_mem_nil, or_false] at hT
    rcases hT with rfl | rfl | rfl | rfl | rfl | rfl <;> exact ⟨trivial, rfl⟩
  refine ⟨h6, fun n => ?_, g6.mono (by omega)⟩
  have cr := fun (p q : D) n s => check_points_ring (P := Pk) n s (r := N) p q tN.1 tN.2
  have c1 := fun n s => check_points_one (P := Pk) n s (vs := vs) (d := d) (p := o) (fr w0) od.pty od.frac
  have c2 := fun n s => check_points_two (P := Pk) n s (vs := vs) (d := d) w0 od.pty od.frac
  have wr1 := fun (w : D) n s => check_walkers_ring (P := Pk) (n + 18) s (r := N) w tN.1 tN.2
  have wb := fun n s => (check_walkers_val (P := Pk) n s (vs := vs) (d := d) (b := false) bB).trans (if_neg (by decide))
  have k1 := fun n s => meet_ex (P := Pk) n s (cr o o)
  have k2 := fun n s => meet_ex (P := Pk) n s c1
  have k3 := fun n s => meet_ex (P := Pk) n s c2
  have k4 := fun n s => nearest_ex (P := Pk) n s (cr o o)
  have k5 := fun n s => nearest_ex (P := Pk) n s c2
  have k6 := fun n s => order_of_ex (P := Pk) n s (wr1 B)
  have k7 := fun n s => order_of_ex (P := Pk) n s wb
  have k8 := fun n s => first_turn_ex (P := Pk) n s (t := T) (wr1 B)
  have k9 := fun n s => first_turn_ex (P := Pk) n s (t := T) wb
  have k10 := fun n s => first_turn_num (P := Pk) n s rg wk tT.1 tT.2
  rw [call_has "_law_are_refused" (n + 60) _ _ rfl]
  simp only [F_law_are_refused, EVf, EVa, EVb, EVc, EVd, EVn, diskD, new_ok r, List.length_map]
  rw [show n + 60 + 5 = (n + 53) + 12 by omega, e1]
  simp only [EVf, EVa, EVb, EVc, EVd, EVn]
  simp only [diskD] at e2
  rw [show n + 53 + 12 = (n + 59) + 6 by omega, e2]
  simp only [EVf, EVa, EVb, EVc, EVd, EVn]
  rw [show n + 59 + 6 = (n + 53) + 12 by omega, e3]
  simp only [EVf, EVa, EVb, EVc, EVd, EVn]
  rw [show n + 53 + 12 = (n + 34) + 31 by omega, e4]
  simp only [EVf, EVa, EVb, EVc, EVd, EVn]
  have t1 : sliceD (.tup (ws.map fr)) none (some 1) = some (.tup ((ws.map fr).take 1)) := slice_tot _ 1
  have a1 : binD .add (.tup (ws.map fr)) (.tup ((ws.map fr).take 1)) = some (.tup (ws.map fr ++ (ws.map fr).take 1)) := add_t (by simp; omega)
  have a2 : binD .add (.tup (ws.map fr)) (.tup [o]) = some (.tup (ws.map fr ++ [o])) := add_t (by simp; omega)
  have a3 : binD .add (.tup (ws.map fr)) (.tup [fr (w0 + ((vs.length : Int) : Rat))]) = some (.tup (ws.map fr ++ [fr (w0 + ((vs.length : Int) : Rat))])) := add_t (by simp; omega)
  have s0 : subD (.tup (ws.map fr)) (.int 0) = some (fr w0) := by rw [hws]; exact sub_t0 _ _
  simp only [EVf, EVa, EVb, EVc, EVd, EVn, t1, a1, a2, s0, fr_int]
  rw [show n + 34 + 31 = (n + 53) + 12 by omega, law_add_ok _ _ _ _ sm0 nsm]
  simp only [EVf, EVa, EVb, EVc, EVd, EVn, a3, fr_zero, mul9]
  rw [add_l (by simp)]
  simp only [EVf, EVa, EVb, EVc, EVd, EVn]
  rw [show n + 53 + 12 = (n + 59) + 6 by omega, e5]
  simp only [EVf, EVa, EVb, EVc, EVd, EVn]
  rw [e6]
  simp only [EVf, EVa, EVb, EVc, EVd, EVn]
  have W0 : ∀ ρ : Env, ρ.at 2 = .v (.tup (ws.map fr)) → ρ.at 3 = .v B → ρ.at 4 = .v T → ρ.at 6 = .v (ringD vs d) → ρ.at 8 = .v N → ρ.at 9 = .v o → evE (cfOf Pk (n + 58 + 5 + 2)) (.word (.call "meet_after" [(.var 8), (.var 9), (.var 9)])) ρ (some h6) = ok (.str "ring") (some h6) := fun ρ q2 q3 q4 q6 q8 q9 => word_ex (n + 58) (by
      simp only [EVa, EVb, EVc, EVd, EVn, q2, q3, q4, q6, q8, q9, s0]
      exact k1 (n + 33) (some h6)) rfl
  have W1 : ∀ ρ : Env, ρ.at 2 = .v (.tup (ws.map fr)) → ρ.at 3 = .v B → ρ.at 4 = .v T → ρ.at 6 = .v (ringD vs d) → ρ.at 8 = .v N → ρ.at 9 = .v o → evE (cfOf Pk (n + 58 + 5 + 2)) (.word (.call "meet_after" [(.var 6), (.var 9), (.sub (.var 2) (.int 0))])) ρ (some h6) = ok (.str "point") (some h6) := fun ρ q2 q3 q4 q6 q8 q9 => word_ex (n + 58) (by
      simp only [EVa, EVb, EVc, EVd, EVn, q2, q3, q4, q6, q8, q9, s0]
      exact k2 (n + 33) (some h6)) rfl
  have W2 : ∀ ρ : Env, ρ.at 2 = .v (.tup (ws.map fr)) → ρ.at 3 = .v B → ρ.at 4 = .v T → ρ.at 6 = .v (ringD vs d) → ρ.at 8 = .v N → ρ.at 9 = .v o → evE (cfOf Pk (n + 58 + 5 + 2)) (.word (.call "meet_after" [(.var 6), (.sub (.var 2) (.int 0)), (.var 9)])) ρ (some h6) = ok (.str "point") (some h6) := fun ρ q2 q3 q4 q6 q8 q9 => word_ex (n + 58) (by
      simp only [EVa, EVb, EVc, EVd, EVn, q2, q3, q4, q6, q8, q9, s0]
      exact k3 (n + 33) (some h6)) rfl
  have W3 : ∀ ρ : Env, ρ.at 2 = .v (.tup (ws.map fr)) → ρ.at 3 = .v B → ρ.at 4 = .v T → ρ.at 6 = .v (ringD vs d) → ρ.at 8 = .v N → ρ.at 9 = .v o → evE (cfOf Pk (n + 58 + 5 + 2)) (.word (.call "nearest" [(.var 8), (.var 9), (.var 9)])) ρ (some h6) = ok (.str "ring") (some h6) := fun ρ q2 q3 q4 q6 q8 q9 => word_ex (n + 58) (by
      simp only [EVa, EVb, EVc, EVd, EVn, q2, q3, q4, q6, q8, q9, s0]
      exact k4 (n + 33) (some h6)) rfl
  have W4 : ∀ ρ : Env, ρ.at 2 = .v (.tup (ws.map fr)) → ρ.at 3 = .v B → ρ.at 4 = .v T → ρ.at 6 = .v (ringD vs d) → ρ.at 8 = .v N → ρ.at 9 = .v o → evE (cfOf Pk (n + 58 + 5 + 2)) (.word (.call "nearest" [(.var 6), (.sub (.var 2) (.int 0)), (.var 9)])) ρ (some h6) = ok (.str "point") (some h6) := fun ρ q2 q3 q4 q6 q8 q9 => word_ex (n + 58) (by
      simp only [EVa, EVb, EVc, EVd, EVn, q2, q3, q4, q6, q8, q9, s0]
      exact k5 (n + 33) (some h6)) rfl
  have W5 : ∀ ρ : Env, ρ.at 2 = .v (.tup (ws.map fr)) → ρ.at 3 = .v B → ρ.at 4 = .v T → ρ.at 6 = .v (ringD vs d) → ρ.at 8 = .v N → ρ.at 9 = .v o → evE (cfOf Pk (n + 58 + 5 + 2)) (.word (.call "order_of" [(.var 8), (.var 3)])) ρ (some h6) = ok (.str "ring") (some h6) := fun ρ q2 q3 q4 q6 q8 q9 => word_ex (n + 58) (by
      simp only [EVa, EVb, EVc, EVd, EVn, q2, q3, q4, q6, q8, q9, s0]
      exact k6 (n + 27) (some h6)) rfl
  have W6 : ∀ ρ : Env, ρ.at 2 = .v (.tup (ws.map fr)) → ρ.at 3 = .v B → ρ.at 4 = .v T → ρ.at 6 = .v (ringD vs d) → ρ.at 8 = .v N → ρ.at 9 = .v o → evE (cfOf Pk (n + 58 + 5 + 2)) (.word (.call "order_of" [(.var 6), (.var 3)])) ρ (some h6) = ok (.str "walkers") (some h6) := fun ρ q2 q3 q4 q6 q8 q9 => word_ex (n + 58) (by
      simp only [EVa, EVb, EVc, EVd, EVn, q2, q3, q4, q6, q8, q9, s0]
      exact k7 (n + 27) (some h6)) rfl
  have W7 : ∀ ρ : Env, ρ.at 2 = .v (.tup (ws.map fr)) → ρ.at 3 = .v B → ρ.at 4 = .v T → ρ.at 6 = .v (ringD vs d) → ρ.at 8 = .v N → ρ.at 9 = .v o → evE (cfOf Pk (n + 58 + 5 + 2)) (.word (.call "first_turn" [(.var 8), (.var 3), (.var 4)])) ρ (some h6) = ok (.str "ring") (some h6) := fun ρ q2 q3 q4 q6 q8 q9 => word_ex (n + 58) (by
      simp only [EVa, EVb, EVc, EVd, EVn, q2, q3, q4, q6, q8, q9, s0]
      exact k8 (n + 27) (some h6)) rfl
  have W8 : ∀ ρ : Env, ρ.at 2 = .v (.tup (ws.map fr)) → ρ.at 3 = .v B → ρ.at 4 = .v T → ρ.at 6 = .v (ringD vs d) → ρ.at 8 = .v N → ρ.at 9 = .v o → evE (cfOf Pk (n + 58 + 5 + 2)) (.word (.call "first_turn" [(.var 6), (.var 3), (.var 4)])) ρ (some h6) = ok (.str "walkers") (some h6) := fun ρ q2 q3 q4 q6 q8 q9 => word_ex (n + 58) (by
      simp only [EVa, EVb, EVc, EVd, EVn, q2, q3, q4, q6, q8, q9, s0]
      exact k9 (n + 27) (some h6)) rfl
  have W9 : ∀ ρ : Env, ρ.at 2 = .v (.tup (ws.map fr)) → ρ.at 3 = .v B → ρ.at 4 = .v T → ρ.at 6 = .v (ringD vs d) → ρ.at 8 = .v N → ρ.at 9 = .v o → evE (cfOf Pk (n + 58 + 5 + 2)) (.word (.call "first_turn" [(.var 6), (.var 2), (.var 4)])) ρ (some h6) = ok (.str "number") (some h6) := fun ρ q2 q3 q4 q6 q8 q9 => word_ex (n + 58) (by
      simp only [EVa, EVb, EVc, EVd, EVn, q2, q3, q4, q6, q8, q9, s0]
      exact k10 (n + 27) (some h6)) rfl
  rw [show n + 59 + 6 = n + 58 + 5 + 2 by omega]
  rw [W0 _ rfl rfl rfl rfl rfl rfl]
  simp only [EVf, EVa, EVb, EVc, EVd, EVn, List.cons_append, List.nil_append, List.length_cons, List.length_nil]
  rw [W1 _ rfl rfl rfl rfl rfl rfl]
  simp only [EVf, EVa, EVb, EVc, EVd, EVn, List.cons_append, List.nil_append, List.length_cons, List.length_nil]
  rw [if_pos (by unfold lim; simp)]
  simp only [EVf, EVa, EVb, EVc, EVd, EVn, List.cons_append, List.nil_append, List.length_cons, List.length_nil]
  rw [W2 _ rfl rfl rfl rfl rfl rfl]
  simp only [EVf, EVa, EVb, EVc, EVd, EVn, List.cons_append, List.nil_append, List.length_cons, List.length_nil]
  rw [if_pos (by unfold lim; simp)]
  simp only [EVf, EVa, EVb, EVc, EVd, EVn, List.cons_append, List.nil_append, List.length_cons, List.length_nil]
  rw [W3 _ rfl rfl rfl rfl rfl rfl]
  simp only [EVf, EVa, EVb, EVc, EVd, EVn, List.cons_append, List.nil_append, List.length_cons, List.length_nil]
  rw [if_pos (by unfold lim; simp)]
  simp only [EVf, EVa, EVb, EVc, EVd, EVn, List.cons_append, List.nil_append, List.length_cons, List.length_nil]
  rw [W4 _ rfl rfl rfl rfl rfl rfl]
  simp only [EVf, EVa, EVb, EVc, EVd, EVn, List.cons_append, List.nil_append, List.length_cons, List.length_nil]
  rw [if_pos (by unfold lim; simp)]
  simp only [EVf, EVa, EVb, EVc, EVd, EVn, List.cons_append, List.nil_append, List.length_cons, List.length_nil]
  rw [W5 _ rfl rfl rfl rfl rfl rfl]
  simp only [EVf, EVa, EVb, EVc, EVd, EVn, List.cons_append, List.nil_append, List.length_cons, List.length_nil]
  rw [if_pos (by unfold lim; simp)]
  simp only [EVf, EVa, EVb, EVc, EVd, EVn, List.cons_append, List.nil_append, List.length_cons, List.length_nil]
  rw [W6 _ rfl rfl rfl rfl rfl rfl]
  simp only [EVf, EVa, EVb, EVc, EVd, EVn, List.cons_append, List.nil_append, List.length_cons, List.length_nil]
  rw [if_pos (by unfold lim; simp)]
  simp only [EVf, EVa, EVb, EVc, EVd, EVn, List.cons_append, List.nil_append, List.length_cons, List.length_nil]
  rw [W7 _ rfl rfl rfl rfl rfl rfl]
  simp only [EVf, EVa, EVb, EVc, EVd, EVn, List.cons_append, List.nil_append, List.length_cons, List.length_nil]
  rw [if_pos (by unfold lim; simp)]
  simp only [EVf, EVa, EVb, EVc, EVd, EVn, List.cons_append, List.nil_append, List.length_cons, List.length_nil]
  rw [W8 _ rfl rfl rfl rfl rfl rfl]
  simp only [EVf, EVa, EVb, EVc, EVd, EVn, List.cons_append, List.nil_append, List.length_cons, List.length_nil]
  rw [if_pos (by unfold lim; simp)]
  simp only [EVf, EVa, EVb, EVc, EVd, EVn, List.cons_append, List.nil_append, List.length_cons, List.length_nil]
  rw [W9 _ rfl rfl rfl rfl rfl rfl]
  simp only [EVf, EVa, EVb, EVc, EVd, EVn, List.cons_append, List.nil_append, List.length_cons, List.length_nil]
  rw [if_pos (by unfold lim; simp)]
  simp only [EVf, EVa, EVb, EVc, EVd, EVn, List.cons_append, List.nil_append, List.length_cons, List.length_nil]
  have fin : cmpD .eq (.lst [.str "ring", .str "point", .str "point", .str "ring", .str "point", .str "ring", .str "walkers", .str "ring", .str "walkers", .str "number"]) (.lst [.str "ring", .str "point", .str "point", .str "ring", .str "point", .str "ring", .str "walkers", .str "ring", .str "walkers", .str "number"]) = some (.bl true) := (enc_lst enc_str).eq_t (a := [⟨"ring", strOk_of "ring"⟩, ⟨"point", strOk_of "point"⟩, ⟨"point", strOk_of "point"⟩, ⟨"ring", strOk_of "ring"⟩, ⟨"point", strOk_of "point"⟩, ⟨"ring", strOk_of "ring"⟩, ⟨"walkers", strOk_of "walkers"⟩, ⟨"ring", strOk_of "ring"⟩, ⟨"walkers", strOk_of "walkers"⟩, ⟨"number", strOk_of "number"⟩]) (b := [⟨"ring", strOk_of "ring"⟩, ⟨"point", strOk_of "point"⟩, ⟨"point", strOk_of "point"⟩, ⟨"ring", strOk_of "ring"⟩, ⟨"point", strOk_of "point"⟩, ⟨"ring", strOk_of "ring"⟩, ⟨"walkers", strOk_of "walkers"⟩, ⟨"ring", strOk_of "ring"⟩, ⟨"walkers", strOk_of "walkers"⟩, ⟨"number", strOk_of "number"⟩]) (by decide) rfl
  simp only [fin, EVf, EVa, EVb, EVc, EVd, EVn]
end
end Ev
set_option maxHeartbeats 4000000
/-! Pl87j: the law. -/
namespace Ev
open PySem
theorem val_int (vs : List Int) (d i : Int) : val vs d (i : Rat) = (dotv vs d i : Int) := by
  unfold val
  rw [Rat.floor_intCast, Rat.sub_self, Rat.mul_zero, Rat.add_zero]
theorem alk_int {n : Nat} (hn : 0 < n) (i : Int) : alk n (i : Rat) = ((i % (n : Int) : Int) : Rat) := by
  have m0 := Int.emod_nonneg i (show (n : Int) ≠ 0 by omega)
  have m1 := Int.emod_lt_of_pos i (show (0 : Int) < n by omega)
  refine alk_unique (k := i / (n : Int)) (Rat.intCast_nonneg.mpr m0) ?_ ?_
  · have := Rat.intCast_lt_intCast.mpr m1
    exact this
  · have h := Int.mul_ediv_add_emod i n
    have : (i : Rat) = (((n : Int) * (i / (n : Int)) + i % (n : Int) : Int) : Rat) := by rw [h]
    rw [this, Rat.intCast_add, Rat.intCast_mul]
    have z : ((n : Int) : Rat) = (n : Rat) := rfl
    rw [z]
    grind
theorem step_int {vs : List Int} (hn : 0 < vs.length) (d i j : Int) : step2 vs d ((i : Rat), (j : Rat)) = (((dotv vs d i % (vs.length : Int) : Int) : Rat), ((dotv vs d j % (vs.length : Int) : Int) : Rat)) := by
  unfold step2
  rw [val_int, val_int, alk_int hn, alk_int hn]
def kn : List Int := [1, 2, 0]
theorem kn_ok : Rok kn 0 := ⟨by decide, by decide, by decide, by decide⟩
theorem kn_walk : it (step2 kn 0) 1 (((0 : Int) : Rat), ((1 : Int) : Rat)) = (((1 : Int) : Rat), ((2 : Int) : Rat)) ∧ it (step2 kn 0) 2 (((0 : Int) : Rat), ((1 : Int) : Rat)) = (((2 : Int) : Rat), ((0 : Int) : Rat)) ∧ it (step2 kn 0) 3 (((0 : Int) : Rat), ((1 : Int) : Rat)) = (((0 : Int) : Rat), ((1 : Int) : Rat)) := by
  have a1 : it (step2 kn 0) 1 (((0 : Int) : Rat), ((1 : Int) : Rat)) = (((1 : Int) : Rat), ((2 : Int) : Rat)) := step_int (vs := kn) (by decide) 0 0 1
  have a2 : it (step2 kn 0) 2 (((0 : Int) : Rat), ((1 : Int) : Rat)) = (((2 : Int) : Rat), ((0 : Int) : Rat)) := by
    show step2 kn 0 (it (step2 kn 0) 1 _) = _
    rw [a1]
    exact step_int (vs := kn) (by decide) 0 1 2
  refine ⟨a1, a2, ?_⟩
  show step2 kn 0 (it (step2 kn 0) 2 _) = _
  rw [a2]
  exact step_int (vs := kn) (by decide) 0 2 0
theorem kn_list : walkL (step2 kn 0) (((0 : Int) : Rat), ((1 : Int) : Rat)) 3 = [(((0 : Int) : Rat), ((1 : Int) : Rat)), (((1 : Int) : Rat), ((2 : Int) : Rat)), (((2 : Int) : Rat), ((0 : Int) : Rat))] := by
  obtain ⟨a1, a2, a3⟩ := kn_walk
  show [it (step2 kn 0) 0 _, it (step2 kn 0) 1 _, it (step2 kn 0) 2 _] = _
  rw [a1, a2]
  rfl
theorem kn_again : Again (step2 kn 0) (alk kn.length ((0 : Int) : Rat), alk kn.length ((1 : Int) : Rat)) 3 := by
  have e0 : alk kn.length ((0 : Int) : Rat) = ((0 : Int) : Rat) := alk_int (by decide) 0
  have e1 : alk kn.length ((1 : Int) : Rat) = ((1 : Int) : Rat) := alk_int (by decide) 1
  rw [e0, e1]
  refine ⟨?_, ?_⟩
  · rw [kn_list]; decide +kernel
  · rw [kn_list, kn_walk.2.2]; simp
theorem kn_none : (0 : Rat) ∉ disR kn.length (walkL (step2 kn 0) (alk kn.length ((0 : Int) : Rat), alk kn.length ((1 : Int) : Rat)) 3) := by
  have e0 : alk kn.length ((0 : Int) : Rat) = ((0 : Int) : Rat) := alk_int (by decide) 0
  have e1 : alk kn.length ((1 : Int) : Rat) = ((1 : Int) : Rat) := alk_int (by decide) 1
  rw [e0, e1, kn_list]
  intro h
  obtain ⟨a, ha, z⟩ := List.mem_map.mp h
  rw [nearR_zero (by decide)] at z
  simp only [List.mem_cons, List.not_mem_nil, or_false] at ha
  rcases ha with rfl | rfl | rfl <;> (rw [alk_int (by decide), alk_int (by decide)] at z; exact absurd (Rat.intCast_inj.mp z) (by decide))
theorem kn_gone : gone kn.length [((2 : Int) : Rat), ((0 : Int) : Rat), ((1 : Int) : Rat)] = [((0 : Int) : Rat), ((1 : Int) : Rat), ((2 : Int) : Rat)] := by
  show [alk kn.length (((2 : Int) : Rat) - ((2 : Int) : Rat)), alk kn.length (((0 : Int) : Rat) - ((2 : Int) : Rat)), alk kn.length (((1 : Int) : Rat) - ((2 : Int) : Rat))] = _
  rw [← Rat.intCast_sub, ← Rat.intCast_sub, ← Rat.intCast_sub, alk_int (by decide), alk_int (by decide), alk_int (by decide)]
  rfl
theorem kn_ord : ordN (gone kn.length [((2 : Int) : Rat), ((0 : Int) : Rat), ((1 : Int) : Rat)]) = [0, 1, 2] := by
  rw [kn_gone]
  decide +kernel
theorem kn_wk : Wk kn.length 1 [((2 : Int) : Rat), ((0 : Int) : Rat), ((1 : Int) : Rat)] := by
  refine ⟨by decide, by decide, fun w hw => ?_, fun w hw => ?_, by decide, by decide, ?_⟩
  · simp only [List.mem_cons, List.not_mem_nil, or_false] at hw
    rcases hw with rfl | rfl | rfl <;> exact Gr.int 1 _
  · simp only [List.mem_cons, List.not_mem_nil, or_false] at hw
    rcases hw with rfl | rfl | rfl <;> exact ⟨by decide +kernel, by decide +kernel⟩
  · rw [← gone_nodup (by decide), kn_gone]
    decide +kernel
def B_law : List S := [.par [(4, false), (5, false)] [(.call "_law_disk" [(.var 1), (.int 4)]), (.tup [(.call "_law_rising" [(.var 1), (.int 4)]), (.int 1)])], .iff (.any [(.not (.e (.call "_law_is_right" [(.var 1), (.var 4), (.bl false)]))), (.not (.e (.call "_law_is_right" [(.var 1), (.var 5), (.bl true)])))]) [.ret (.bl false)] [], .iff (.not (.e (.call "_law_are_refused" [(.var 1), (.var 4)]))) [.ret (.bl false)] []]
theorem law_loop (x0 x2 : Sl) : ∀ (j i : Nat) (u3 u4 u5 : Sl) (h : Hand) (c : Int), HandG h c → c + 1000 * j < 2 ^ 45 → ∃ (v3 v4 v5 : Sl) (h' : Hand), (∀ n, forGo (forK (cfOf Pk (n + 66)) (.one 3) B_law) ((List.range' i j).map natD) [x0, .v .hand, x2, u3, u4, u5] (some h) = ok (.nx [x0, .v .hand, x2, v3, v4, v5]) (some h')) ∧ HandG h' (c + 1000 * j) := by
  intro j
  induction j with
  | zero =>
    intro i u3 u4 u5 h c g hc
    exact ⟨u3, u4, u5, h, fun n => rfl, by simpa using g⟩
  | succ j ih =>
    intro i u3 u4 u5 h c g hc
    obtain ⟨vs, d, h1, e1, r1, l1, g1⟩ := disk_ok (P := Pk) g (by omega)
    obtain ⟨ws, h2, e2, r2, l2, ris, g2⟩ := rising_ok (P := Pk) g1 (by omega)
    obtain ⟨h3, e3, g3⟩ := is_right_ok r1 l1 false (fun z => by cases z) g2 (by omega)
    obtain ⟨h4, e4, g4⟩ := is_right_ok r2 l2 true (fun _ => ⟨rfl, ris⟩) g3 (by omega)
    obtain ⟨h5, e5, g5⟩ := refused_ok r1 l1 g4 (by omega)
    obtain ⟨v3, v4, v5, h6, e6, g6⟩ := ih (i + 1) (.v (natD i)) (.v (diskD vs d)) (.v (diskD ws 1)) h5 (c + 1000) (g5.mono (by omega)) (by omega)
    refine ⟨v3, v4, v5, h6, fun n => ?_, g6.mono (by omega)⟩
    rw [List.range'_succ, List.map_cons, ← e6 n]
    simp only [EVf, EVa, EVb, EVc, EVd, EVn, B_law]
    rw [show n + 66 = (n + 54) + 12 by omega, e1]
    simp only [EVf, EVa, EVb, EVc, EVd, EVn]
    rw [e2]
    simp only [EVf, EVa, EVb, EVc, EVd, EVn]
    rw [show D.tup [.tup (ws.map .int), .int 1] = diskD ws 1 from rfl, show n + 54 + 12 = n + 66 by omega, e3]
    simp only [EVf, EVa, EVb, EVc, EVd, EVn, Bool.not_true]
    rw [e4]
    simp only [EVf, EVa, EVb, EVc, EVd, EVn, Bool.not_true]
    rw [e5]
    simp only [EVf, EVa, EVb, EVc, EVd, EVn, Bool.not_true]
theorem law_tail (x0 : Sl) {h : Hand} (g : HandG h 0) : ∃ (ρ : Env) (h' : Hand), ∀ n, evSs (cfOf Pk (n + 66)) (F_law.body.drop 1) [x0, .v .hand, .no, .no, .no, .no] (some h) = ok (.ret ρ (.bl true)) (some h') := by
  obtain ⟨v3, v4, v5, h1, e1, g1⟩ := law_loop x0 (.v (ringD kn 0)) 4 0 .no .no .no h 0 g (by decide)
  refine ⟨[x0, .v .hand, .v (ringD kn 0), v3, v4, v5], h1, fun n => ?_⟩
  have nw : Pk.nw "Ring" [.tup [.int 1, .int 2, .int 0], .int 0] = some (ringD kn 0) := new_ok (vs := kn) kn_ok
  have m := meet_after_ok (P := Pk) (n + 16) (some h) kn_ok.rg (m := 1) (by decide) (by decide) (p := ((0 : Int) : Rat)) (q := ((1 : Int) : Rat)) ⟨by decide, by decide⟩ ⟨by decide, by decide⟩ (Gr.int 1 0) (Gr.int 1 1) (by decide) kn_again
  rw [if_neg kn_none] at m
  have o := order_of_ok (P := Pk) (n + 30) (some h) kn_ok.rg kn_wk
  rw [kn_ord] at o
  simp only [List.map_cons, List.map_nil] at o
  have c1 : cmpD .isnot .non .non = some (.bl false) := rfl
  have c2 : cmpD .ne (ordT [0, 1, 2]) (.tup [.int 0, .int 1, .int 2]) = some (.bl false) := enc_ordT.ne_f (a := [0, 1, 2]) (b := [0, 1, 2]) (by decide) rfl
  simp only [F_law, List.drop, EVf, EVa, EVb, EVc, EVd, EVn, nw, fr_int]
  rw [show n + 66 = n + 16 + 50 by omega, m]
  simp only [EVf, EVa, EVb, EVc, EVd, EVn, optD, c1]
  simp only [fr_int]
  rw [show n + 16 + 50 = n + 30 + 36 by omega, o]
  simp only [EVf, EVa, EVb, EVc, EVd, EVn, c2]
  rw [if_pos (rngG_ok (by decide) (by decide) (by decide) (by decide)), show (4 : Int) = ((4 : Nat) : Int) from rfl, rng_nat]
  simp only [EVf, EVa, EVb, EVc, EVd, EVn]
  have e1' := e1 n
  simp only [B_law] at e1'
  rw [show n + 30 + 36 = n + 66 by omega]
  simp only [show ((4 : Nat) : Int) = 4 from rfl]
  rw [e1']
  simp only [EVf, EVa, EVb, EVc, EVd, EVn]
end Ev
set_option maxHeartbeats 0
namespace H87
open PySem PySem.Spec PyProof.Rows L2 Ev
def top (i : Nat) : Stmt := PySem.Challenge.pw_dotmaps_k87_whole_walkers_that_meet.main.body.getD i (.Pass ⟨0, 0, 0, 0⟩)
def d2_0 : He.DefD := ⟨("BadRing", some "__init__"), "__init__", "BadRing.__init__", defArgs (inClass (top 2) 0), defBody (inClass (top 2) 0), defScope (inClass (top 2) 0), [], []⟩
def d6_0 : He.DefD := ⟨("TooMany", some "__init__"), "__init__", "TooMany.__init__", defArgs (inClass (top 6) 0), defBody (inClass (top 6) 0), defScope (inClass (top 6) 0), [], []⟩
def d9 : He.DefD := ⟨("is_integer", none), "is_integer", "is_integer", defArgs (top 9), defBody (top 9), defScope (top 9), [], []⟩
def d10 : He.DefD := ⟨("is_between", none), "is_between", "is_between", defArgs (top 10), defBody (top 10), defScope (top 10), [], []⟩
def d11 : He.DefD := ⟨("common_divisor", none), "common_divisor", "common_divisor", defArgs (top 11), defBody (top 11), defScope (top 11), [], []⟩
def d12 : He.DefD := ⟨("fraction", none), "fraction", "fraction", defArgs (top 12), defBody (top 12), defScope (top 12), [], []⟩
def d13 : He.DefD := ⟨("whole", none), "whole", "whole", defArgs (top 13), defBody (top 13), defScope (top 13), [], []⟩
def d14 : He.DefD := ⟨("minus", none), "minus", "minus", defArgs (top 14), defBody (top 14), defScope (top 14), [], []⟩
def d15 : He.DefD := ⟨("is_less", none), "is_less", "is_less", defArgs (top 15), defBody (top 15), defScope (top 15), [], []⟩
def d16 : He.DefD := ⟨("is_fraction", none), "is_fraction", "is_fraction", defArgs (top 16), defBody (top 16), defScope (top 16), [], []⟩
def d17 : He.DefD := ⟨("in_order", none), "in_order", "in_order", defArgs (top 17), defBody (top 17), defScope (top 17), [], []⟩
def d25_0 : He.DefD := ⟨("Ring", some "__init__"), "__init__", "Ring.__init__", defArgs (inClass (top 25) 0), defBody (inClass (top 25) 0), defScope (inClass (top 25) 0), [], []⟩
def d25_1 : He.DefD := ⟨("Ring", some "__eq__"), "__eq__", "Ring.__eq__", defArgs (inClass (top 25) 1), defBody (inClass (top 25) 1), defScope (inClass (top 25) 1), [], []⟩
def d25_2 : He.DefD := ⟨("Ring", some "__call__"), "__call__", "Ring.__call__", defArgs (inClass (top 25) 2), defBody (inClass (top 25) 2), defScope (inClass (top 25) 2), [], []⟩
def d26 : He.DefD := ⟨("check_ring", none), "check_ring", "check_ring", defArgs (top 26), defBody (top 26), defScope (top 26), [], []⟩
def d27 : He.DefD := ⟨("check_point", none), "check_point", "check_point", defArgs (top 27), defBody (top 27), defScope (top 27), [], []⟩
def d28 : He.DefD := ⟨("dot_value", none), "dot_value", "dot_value", defArgs (top 28), defBody (top 28), defScope (top 28), [], []⟩
def d29 : He.DefD := ⟨("value_at", none), "value_at", "value_at", defArgs (top 29), defBody (top 29), defScope (top 29), [], []⟩
def d30 : He.DefD := ⟨("alike_one", none), "alike_one", "alike_one", defArgs (top 30), defBody (top 30), defScope (top 30), [], []⟩
def d33 : He.DefD := ⟨("apart_by", none), "apart_by", "apart_by", defArgs (top 33), defBody (top 33), defScope (top 33), [], []⟩
def d34 : He.DefD := ⟨("distances", none), "distances", "distances", defArgs (top 34), defBody (top 34), defScope (top 34), [], []⟩
def d35 : He.DefD := ⟨("check_points", none), "check_points", "check_points", defArgs (top 35), defBody (top 35), defScope (top 35), [], []⟩
def d36 : He.DefD := ⟨("meet_after", none), "meet_after", "meet_after", defArgs (top 36), defBody (top 36), defScope (top 36), [], []⟩
def d37 : He.DefD := ⟨("nearest", none), "nearest", "nearest", defArgs (top 37), defBody (top 37), defScope (top 37), [], []⟩
def d38 : He.DefD := ⟨("are_walkers", none), "are_walkers", "are_walkers", defArgs (top 38), defBody (top 38), defScope (top 38), [], []⟩
def d39 : He.DefD := ⟨("check_walkers", none), "check_walkers", "check_walkers", defArgs (top 39), defBody (top 39), defScope (top 39), [], []⟩
def d40 : He.DefD := ⟨("raw_order", none), "raw_order", "raw_order", defArgs (top 40), defBody (top 40), defScope (top 40), [], []⟩
def d41 : He.DefD := ⟨("order_of", none), "order_of", "order_of", defArgs (top 41), defBody (top 41), defScope (top 41), [], []⟩
def d42 : He.DefD := ⟨("first_turn", none), "first_turn", "first_turn", defArgs (top 42), defBody (top 42), defScope (top 42), [], []⟩
def d44 : He.DefD := ⟨("_law_hand", none), "_law_hand", "_law_hand", defArgs (top 44), defBody (top 44), defScope (top 44), [], []⟩
def d45 : He.DefD := ⟨("_law_draw", none), "_law_draw", "_law_draw", defArgs (top 45), defBody (top 45), defScope (top 45), [], []⟩
def d46 : He.DefD := ⟨("_law_any", none), "_law_any", "_law_any", defArgs (top 46), defBody (top 46), defScope (top 46), [], []⟩
def d47 : He.DefD := ⟨("_law_is", none), "_law_is", "_law_is", defArgs (top 47), defBody (top 47), defScope (top 47), [], []⟩
def d48 : He.DefD := ⟨("_law_low", none), "_law_low", "_law_low", defArgs (top 48), defBody (top 48), defScope (top 48), [], []⟩
def d49 : He.DefD := ⟨("_law_add", none), "_law_add", "_law_add", defArgs (top 49), defBody (top 49), defScope (top 49), [], []⟩
def d50 : He.DefD := ⟨("_law_sub", none), "_law_sub", "_law_sub", defArgs (top 50), defBody (top 50), defScope (top 50), [], []⟩
def d51 : He.DefD := ⟨("_law_less", none), "_law_less", "_law_less", defArgs (top 51), defBody (top 51), defScope (top 51), [], []⟩
def d52 : He.DefD := ⟨("_law_rising", none), "_law_rising", "_law_rising", defArgs (top 52), defBody (top 52), defScope (top 52), [], []⟩
def d53 : He.DefD := ⟨("_law_odd", none), "_law_odd", "_law_odd", defArgs (top 53), defBody (top 53), defScope (top 53), [], []⟩
def d54 : He.DefD := ⟨("_law_disk", none), "_law_disk", "_law_disk", defArgs (top 54), defBody (top 54), defScope (top 54), [], []⟩
def d55 : He.DefD := ⟨("_law_dot_of", none), "_law_dot_of", "_law_dot_of", defArgs (top 55), defBody (top 55), defScope (top 55), [], []⟩
def d56 : He.DefD := ⟨("_law_to", none), "_law_to", "_law_to", defArgs (top 56), defBody (top 56), defScope (top 56), [], []⟩
def d57 : He.DefD := ⟨("_law_behind", none), "_law_behind", "_law_behind", defArgs (top 57), defBody (top 57), defScope (top 57), [], []⟩
def d58 : He.DefD := ⟨("_law_on", none), "_law_on", "_law_on", defArgs (top 58), defBody (top 58), defScope (top 58), [], []⟩
def d59 : He.DefD := ⟨("_law_near", none), "_law_near", "_law_near", defArgs (top 59), defBody (top 59), defScope (top 59), [], []⟩
def d60 : He.DefD := ⟨("_law_sorted", none), "_law_sorted", "_law_sorted", defArgs (top 60), defBody (top 60), defScope (top 60), [], []⟩
def d61 : He.DefD := ⟨("_law_word", none), "_law_word", "_law_word", defArgs (top 61), defBody (top 61), defScope (top 61), [], []⟩
def d62 : He.DefD := ⟨("_law_pairs", none), "_law_pairs", "_law_pairs", defArgs (top 62), defBody (top 62), defScope (top 62), [], []⟩
def d63 : He.DefD := ⟨("_law_order", none), "_law_order", "_law_order", defArgs (top 63), defBody (top 63), defScope (top 63), [], []⟩
def d64 : He.DefD := ⟨("_law_are_apart", none), "_law_are_apart", "_law_are_apart", defArgs (top 64), defBody (top 64), defScope (top 64), [], []⟩
def d65 : He.DefD := ⟨("_law_turn", none), "_law_turn", "_law_turn", defArgs (top 65), defBody (top 65), defScope (top 65), [], []⟩
def d66 : He.DefD := ⟨("_law_drawn", none), "_law_drawn", "_law_drawn", defArgs (top 66), defBody (top 66), defScope (top 66), [], []⟩
def d67 : He.DefD := ⟨("_law_is_right", none), "_law_is_right", "_law_is_right", defArgs (top 67), defBody (top 67), defScope (top 67), [], []⟩
def d68 : He.DefD := ⟨("_law_are_refused", none), "_law_are_refused", "_law_are_refused", defArgs (top 68), defBody (top 68), defScope (top 68), [], []⟩
def d69 : He.DefD := ⟨("law", none), "law", "law", defArgs (top 69), defBody (top 69), defScope (top 69), [], []⟩
def fn : List He.DefD := [d2_0, d6_0, d9, d10, d11, d12, d13, d14, d15, d16, d17, d25_0, d25_1, d25_2, d26, d27, d28, d29, d30, d33, d34, d35, d36, d37, d38, d39, d40, d41, d42, d44, d45, d46, d47, d48, d49, d50, d51, d52, d53, d54, d55, d56, d57, d58, d59, d60, d61, d62, d63, d64, d65, d66, d67, d68, d69]
def fa0 : List He.Fa := [.glo "RingError", .exc "RingError", .glo "BadRing", .glo "NoRing", .exc "NoRing", .glo "NoPoint", .exc "NoPoint", .glo "NoNumber", .exc "NoNumber", .glo "TooMany", .glo "NoWalkers", .exc "NoWalkers", .glo "is_integer", .glo "is_between", .glo "common_divisor", .glo "fraction", .glo "whole", .glo "minus", .glo "is_less", .glo "is_fraction", .glo "in_order", .int "LEAST_DOTS" 2, .int "MOST_DOTS" 8, .int "MOST_VALUE" 60, .int "MOST_DEGREE" 4, .int "MOST_WALK" 60, .int "MOST_STEPS" 3000, .glo "Ring", .cls "Ring", .mkr "Ring", .noat "Ring" "degree", .noat "Ring" "dots", .noat "Ring" "many", .meth "Ring" "__init__", .meth "Ring" "__eq__"]
def fa1 : List He.Fa := [.meth "Ring" "__call__", .glo "check_ring", .glo "check_point", .glo "dot_value", .glo "value_at", .glo "alike_one", .int "MOST_WALKERS" 8, .glo "apart_by", .glo "distances", .glo "check_points", .glo "meet_after", .glo "nearest", .glo "are_walkers", .glo "check_walkers", .glo "raw_order", .glo "order_of", .glo "first_turn", .glo "_law_hand", .glo "_law_draw", .glo "_law_any", .glo "_law_is", .glo "_law_low", .glo "_law_add", .glo "_law_sub", .glo "_law_less", .glo "_law_rising", .glo "_law_odd", .glo "_law_disk", .glo "_law_dot_of", .glo "_law_to", .glo "_law_behind", .glo "_law_on", .glo "_law_near", .glo "_law_sorted", .glo "_law_word"]
def fa2 : List He.Fa := [.glo "_law_pairs", .glo "_law_order", .glo "_law_are_apart", .glo "_law_turn", .glo "_law_drawn", .glo "_law_is_right", .glo "_law_are_refused", .glo "law", .free "ValueError", .free "abs", .free "all", .free "any", .free "bool", .free "dict", .free "divmod", .free "enumerate", .free "int", .free "isinstance", .free "len", .free "list", .free "max", .free "min", .free "range", .free "repr", .free "reversed", .free "set", .free "sorted", .free "str", .free "sum", .free "tuple", .free "zip"]
def fa : List He.Fa := fa0 ++ fa1 ++ fa2
def loose0 : List PySem.Str := [("RingError" : PySem.Str), ("BadRing" : PySem.Str), ("NoRing" : PySem.Str), ("NoPoint" : PySem.Str), ("NoNumber" : PySem.Str), ("TooMany" : PySem.Str), ("NoWalkers" : PySem.Str), ("is_integer" : PySem.Str), ("is_between" : PySem.Str), ("common_divisor" : PySem.Str), ("fraction" : PySem.Str), ("whole" : PySem.Str), ("minus" : PySem.Str), ("is_less" : PySem.Str), ("is_fraction" : PySem.Str), ("in_order" : PySem.Str), ("LEAST_DOTS" : PySem.Str), ("MOST_DOTS" : PySem.Str), ("MOST_VALUE" : PySem.Str), ("MOST_DEGREE" : PySem.Str), ("MOST_WALK" : PySem.Str), ("MOST_STEPS" : PySem.Str), ("Ring" : PySem.Str), ("check_ring" : PySem.Str), ("check_point" : PySem.Str), ("dot_value" : PySem.Str), ("value_at" : PySem.Str), ("alike_one" : PySem.Str), ("MOST_WALKERS" : PySem.Str), ("apart_by" : PySem.Str), ("distances" : PySem.Str), ("check_points" : PySem.Str), ("meet_after" : PySem.Str), ("nearest" : PySem.Str), ("are_walkers" : PySem.Str)]
def loose1 : List PySem.Str := [("check_walkers" : PySem.Str), ("raw_order" : PySem.Str), ("order_of" : PySem.Str), ("first_turn" : PySem.Str), ("_law_hand" : PySem.Str), ("_law_draw" : PySem.Str), ("_law_any" : PySem.Str), ("_law_is" : PySem.Str), ("_law_low" : PySem.Str), ("_law_add" : PySem.Str), ("_law_sub" : PySem.Str), ("_law_less" : PySem.Str), ("_law_rising" : PySem.Str), ("_law_odd" : PySem.Str), ("_law_disk" : PySem.Str), ("_law_dot_of" : PySem.Str), ("_law_to" : PySem.Str), ("_law_behind" : PySem.Str), ("_law_on" : PySem.Str), ("_law_near" : PySem.Str), ("_law_sorted" : PySem.Str), ("_law_word" : PySem.Str), ("_law_pairs" : PySem.Str), ("_law_order" : PySem.Str), ("_law_are_apart" : PySem.Str), ("_law_turn" : PySem.Str), ("_law_drawn" : PySem.Str), ("_law_is_right" : PySem.Str), ("_law_are_refused" : PySem.Str)]
def loose : List PySem.Str := loose0 ++ loose1
def tf : List He.Defn := [("_law_are_refused", none)]
def errL : List PySem.Str := [("NoRing" : PySem.Str), ("NoPoint" : PySem.Str), ("NoWalkers" : PySem.Str), ("NoNumber" : PySem.Str)]
def exo (x : PySem.Str) : List (PySem.Str × Bool) := errL.map fun y => (y, decide (x = y))
def exb : List (PySem.Str × String × Bool) := [("ValueError", "ValueError", true)]
def clsL : List PySem.Str := [("Ring" : PySem.Str)]
def ex (K : PySem.W.Frag) : Bool := clsL.all (fun x => objB K x) && (kitCB K clsL && errL.all fun x => errB K "RingError" (exo x) exb x)
abbrev R : PySem.W.OpenRow := PySem.W.OpenLaw.row PySem.Challenge.rw_dotmaps_k87_whole_walkers_that_meet
abbrev hk : PySem.W.Hook := He.hookX 5 fa fn [] tf ex
def ob (s : PySem.W.SharedT) : He.AlX := He.obsX 5 fa fn [] tf ex (HandSHeadRun.getT s)
theorem ob_eq (s : PySem.W.SharedT) : ob s = hk.obs s.abs := He.obsX_eq (HandSHeadRun.getT_eq s)
theorem run (w : World) : HandSHeadRun.RunEq R (PySem.W.view R.prog [69]) hk ob 6000 loose w := by
  intro os
  kernel_rfl
end H87
set_option maxHeartbeats 0
namespace H87
open PySem PySem.Spec PyProof.Rows L2 Ev
def N_is_integer : List PySem.Str := ["thing"]
theorem sc_is_integer : FnScope N_is_integer ["thing"] (defScope (top 9)) := ⟨rfl, rfl, rfl, by decide +kernel, rfl, by decide +kernel, by decide +kernel⟩
theorem ck_is_integer : chkSs Pk ⟨N_is_integer, defScope (top 9), fun _ => true, false, false, [], ""⟩ F_is_integer.body (defBody (top 9)) = true := by decide +kernel
def N_is_between : List PySem.Str := ["thing", "low", "high"]
theorem sc_is_between : FnScope N_is_between ["thing", "low", "high"] (defScope (top 10)) := ⟨rfl, rfl, rfl, by decide +kernel, rfl, by decide +kernel, by decide +kernel⟩
theorem ck_is_between : chkSs Pk ⟨N_is_between, defScope (top 10), fun _ => true, false, false, [], ""⟩ F_is_between.body (defBody (top 10)) = true := by decide +kernel
def N_common_divisor : List PySem.Str := ["one", "other"]
theorem sc_common_divisor : FnScope N_common_divisor ["one", "other"] (defScope (top 11)) := ⟨rfl, rfl, rfl, by decide +kernel, rfl, by decide +kernel, by decide +kernel⟩
theorem ck_common_divisor : chkSs Pk ⟨N_common_divisor, defScope (top 11), fun _ => true, false, false, [], ""⟩ F_common_divisor.body (defBody (top 11)) = true := by decide +kernel
def N_fraction : List PySem.Str := ["top", "bottom", "by"]
theorem sc_fraction : FnScope N_fraction ["top", "bottom"] (defScope (top 12)) := ⟨rfl, rfl, rfl, by decide +kernel, rfl, by decide +kernel, by decide +kernel⟩
theorem ck_fraction : chkSs Pk ⟨N_fraction, defScope (top 12), fun _ => true, false, false, [], ""⟩ F_fraction.body (defBody (top 12)) = true := by decide +kernel
def N_whole : List PySem.Str := ["number"]
theorem sc_whole : FnScope N_whole ["number"] (defScope (top 13)) := ⟨rfl, rfl, rfl, by decide +kernel, rfl, by decide +kernel, by decide +kernel⟩
theorem ck_whole : chkSs Pk ⟨N_whole, defScope (top 13), fun _ => true, false, false, [], ""⟩ F_whole.body (defBody (top 13)) = true := by decide +kernel
def N_minus : List PySem.Str := ["one", "other"]
theorem sc_minus : FnScope N_minus ["one", "other"] (defScope (top 14)) := ⟨rfl, rfl, rfl, by decide +kernel, rfl, by decide +kernel, by decide +kernel⟩
theorem ck_minus : chkSs Pk ⟨N_minus, defScope (top 14), fun _ => true, false, false, [], ""⟩ F_minus.body (defBody (top 14)) = true := by decide +kernel
def N_is_less : List PySem.Str := ["one", "other"]
theorem sc_is_less : FnScope N_is_less ["one", "other"] (defScope (top 15)) := ⟨rfl, rfl, rfl, by decide +kernel, rfl, by decide +kernel, by decide +kernel⟩
theorem ck_is_less : chkSs Pk ⟨N_is_less, defScope (top 15), fun _ => true, false, false, [], ""⟩ F_is_less.body (defBody (top 15)) = true := by decide +kernel
def N_is_fraction : List PySem.Str := ["thing", "part"]
theorem sc_is_fraction : FnScope N_is_fraction ["thing"] (defScope (top 16)) := ⟨rfl, rfl, rfl, by decide +kernel, rfl, by decide +kernel, by decide +kernel⟩
theorem ck_is_fraction : chkSs Pk ⟨N_is_fraction, defScope (top 16), fun _ => true, false, false, [], ""⟩ F_is_fraction.body (defBody (top 16)) = true := by decide +kernel
def N_in_order : List PySem.Str := ["some", "found", "one", "at"]
theorem sc_in_order : FnScope N_in_order ["some"] (defScope (top 17)) := ⟨rfl, rfl, rfl, by decide +kernel, rfl, by decide +kernel, by decide +kernel⟩
theorem ck_in_order : chkSs Pk ⟨N_in_order, defScope (top 17), fun _ => true, false, false, [], ""⟩ F_in_order.body (defBody (top 17)) = true := by decide +kernel
def N_check_ring : List PySem.Str := ["thing"]
theorem sc_check_ring : FnScope N_check_ring ["thing"] (defScope (top 26)) := ⟨rfl, rfl, rfl, by decide +kernel, rfl, by decide +kernel, by decide +kernel⟩
theorem ck_check_ring : chkSs Pk ⟨N_check_ring, defScope (top 26), fun _ => true, false, false, [], ""⟩ F_check_ring.body (defBody (top 26)) = true := by decide +kernel
def N_check_point : List PySem.Str := ["point"]
theorem sc_check_point : FnScope N_check_point ["point"] (defScope (top 27)) := ⟨rfl, rfl, rfl, by decide +kernel, rfl, by decide +kernel, by decide +kernel⟩
theorem ck_check_point : chkSs Pk ⟨N_check_point, defScope (top 27), fun _ => true, false, false, [], ""⟩ F_check_point.body (defBody (top 27)) = true := by decide +kernel
def N_dot_value : List PySem.Str := ["ring", "dot"]
theorem sc_dot_value : FnScope N_dot_value ["ring", "dot"] (defScope (top 28)) := ⟨rfl, rfl, rfl, by decide +kernel, rfl, by decide +kernel, by decide +kernel⟩
theorem ck_dot_value : chkSs Pk ⟨N_dot_value, defScope (top 28), fun _ => true, false, false, [], ""⟩ F_dot_value.body (defBody (top 28)) = true := by decide +kernel
def N_value_at : List PySem.Str := ["ring", "point", "dot", "first", "rise"]
theorem sc_value_at : FnScope N_value_at ["ring", "point"] (defScope (top 29)) := ⟨rfl, rfl, rfl, by decide +kernel, rfl, by decide +kernel, by decide +kernel⟩
theorem ck_value_at : chkSs Pk ⟨N_value_at, defScope (top 29), fun _ => true, false, false, [], ""⟩ F_value_at.body (defBody (top 29)) = true := by decide +kernel
def N_alike_one : List PySem.Str := ["ring", "point"]
theorem sc_alike_one : FnScope N_alike_one ["ring", "point"] (defScope (top 30)) := ⟨rfl, rfl, rfl, by decide +kernel, rfl, by decide +kernel, by decide +kernel⟩
theorem ck_alike_one : chkSs Pk ⟨N_alike_one, defScope (top 30), fun _ => true, false, false, [], ""⟩ F_alike_one.body (defBody (top 30)) = true := by decide +kernel
def N_apart_by : List PySem.Str := ["ring", "one", "other", "up", "down"]
theorem sc_apart_by : FnScope N_apart_by ["ring", "one", "other"] (defScope (top 33)) := ⟨rfl, rfl, rfl, by decide +kernel, rfl, by decide +kernel, by decide +kernel⟩
theorem ck_apart_by : chkSs Pk ⟨N_apart_by, defScope (top 33), fun _ => true, false, false, [], ""⟩ F_apart_by.body (defBody (top 33)) = true := by decide +kernel
def N_distances : List PySem.Str := ["ring", "one", "other", "here", "found", "met", "point"]
theorem sc_distances : FnScope N_distances ["ring", "one", "other"] (defScope (top 34)) := ⟨rfl, rfl, rfl, by decide +kernel, rfl, by decide +kernel, by decide +kernel⟩
theorem ck_distances : chkSs Pk ⟨N_distances, defScope (top 34), fun _ => true, false, false, [], ""⟩ F_distances.body (defBody (top 34)) = true := by decide +kernel
def N_check_points : List PySem.Str := ["ring", "one", "other"]
theorem sc_check_points : FnScope N_check_points ["ring", "one", "other"] (defScope (top 35)) := ⟨rfl, rfl, rfl, by decide +kernel, rfl, by decide +kernel, by decide +kernel⟩
theorem ck_check_points : chkSs Pk ⟨N_check_points, defScope (top 35), fun _ => true, false, false, [], ""⟩ F_check_points.body (defBody (top 35)) = true := by decide +kernel
def N_meet_after : List PySem.Str := ["ring", "one", "other", "found"]
theorem sc_meet_after : FnScope N_meet_after ["ring", "one", "other"] (defScope (top 36)) := ⟨rfl, rfl, rfl, by decide +kernel, rfl, by decide +kernel, by decide +kernel⟩
theorem ck_meet_after : chkSs Pk ⟨N_meet_after, defScope (top 36), fun _ => true, false, false, [], ""⟩ F_meet_after.body (defBody (top 36)) = true := by decide +kernel
def N_nearest : List PySem.Str := ["ring", "one", "other"]
theorem sc_nearest : FnScope N_nearest ["ring", "one", "other"] (defScope (top 37)) := ⟨rfl, rfl, rfl, by decide +kernel, rfl, by decide +kernel, by decide +kernel⟩
theorem ck_nearest : chkSs Pk ⟨N_nearest, defScope (top 37), fun _ => true, false, false, [], ""⟩ F_nearest.body (defBody (top 37)) = true := by decide +kernel
def N_are_walkers : List PySem.Str := ["ring", "thing", "point"]
theorem sc_are_walkers : FnScope N_are_walkers ["ring", "thing"] (defScope (top 38)) := ⟨rfl, rfl, rfl, by decide +kernel, rfl, by decide +kernel, by decide +kernel⟩
theorem ck_are_walkers : chkSs Pk ⟨N_are_walkers, defScope (top 38), fun _ => true, false, false, [], ""⟩ F_are_walkers.body (defBody (top 38)) = true := by decide +kernel
def N_check_walkers : List PySem.Str := ["ring", "walkers"]
theorem sc_check_walkers : FnScope N_check_walkers ["ring", "walkers"] (defScope (top 39)) := ⟨rfl, rfl, rfl, by decide +kernel, rfl, by decide +kernel, by decide +kernel⟩
theorem ck_check_walkers : chkSs Pk ⟨N_check_walkers, defScope (top 39), fun _ => true, false, false, [], ""⟩ F_check_walkers.body (defBody (top 39)) = true := by decide +kernel
def N_raw_order : List PySem.Str := ["ring", "walkers", "places", "number", "point", "place"]
theorem sc_raw_order : FnScope N_raw_order ["ring", "walkers"] (defScope (top 40)) := ⟨rfl, rfl, rfl, by decide +kernel, rfl, by decide +kernel, by decide +kernel⟩
theorem ck_raw_order : chkSs Pk ⟨N_raw_order, defScope (top 40), fun _ => true, false, false, [], ""⟩ F_raw_order.body (defBody (top 40)) = true := by decide +kernel
def N_order_of : List PySem.Str := ["ring", "walkers"]
theorem sc_order_of : FnScope N_order_of ["ring", "walkers"] (defScope (top 41)) := ⟨rfl, rfl, rfl, by decide +kernel, rfl, by decide +kernel, by decide +kernel⟩
theorem ck_order_of : chkSs Pk ⟨N_order_of, defScope (top 41), fun _ => true, false, false, [], ""⟩ F_order_of.body (defBody (top 41)) = true := by decide +kernel
def N_first_turn : List PySem.Str := ["ring", "walkers", "steps", "turn", "first", "here", "point"]
theorem sc_first_turn : FnScope N_first_turn ["ring", "walkers", "steps"] (defScope (top 42)) := ⟨rfl, rfl, rfl, by decide +kernel, rfl, by decide +kernel, by decide +kernel⟩
theorem ck_first_turn : chkSs Pk ⟨N_first_turn, defScope (top 42), fun _ => true, false, false, [], ""⟩ F_first_turn.body (defBody (top 42)) = true := by decide +kernel
def N_law_hand : List PySem.Str := ["script", "cells", "cell"]
theorem sc_law_hand : FnScope N_law_hand ["script"] (defScope (top 44)) := ⟨rfl, rfl, rfl, by decide +kernel, rfl, by decide +kernel, by decide +kernel⟩
theorem ck_law_hand : chkSs Pk ⟨N_law_hand, defScope (top 44), fun _ => true, false, false, [], ""⟩ F_law_hand.body (defBody (top 44)) = true := by decide +kernel
def N_law_any : List PySem.Str := ["hand", "things"]
theorem sc_law_any : FnScope N_law_any ["hand", "things"] (defScope (top 46)) := ⟨rfl, rfl, rfl, by decide +kernel, rfl, by decide +kernel, by decide +kernel⟩
theorem ck_law_any : chkSs Pk ⟨N_law_any, defScope (top 46), fun _ => true, false, false, [], ""⟩ F_law_any.body (defBody (top 46)) = true := by decide +kernel
def N_law_is : List PySem.Str := ["got", "due", "one", "other"]
theorem sc_law_is : FnScope N_law_is ["got", "due"] (defScope (top 47)) := ⟨rfl, rfl, rfl, by decide +kernel, rfl, by decide +kernel, by decide +kernel⟩
theorem ck_law_is : chkSs Pk ⟨N_law_is, defScope (top 47), fun _ => true, false, false, [], ""⟩ F_law_is.body (defBody (top 47)) = true := by decide +kernel
def N_law_low : List PySem.Str := ["top", "bottom", "one", "other"]
theorem sc_law_low : FnScope N_law_low ["top", "bottom"] (defScope (top 48)) := ⟨rfl, rfl, rfl, by decide +kernel, rfl, by decide +kernel, by decide +kernel⟩
theorem ck_law_low : chkSs Pk ⟨N_law_low, defScope (top 48), fun _ => true, false, false, [], ""⟩ F_law_low.body (defBody (top 48)) = true := by decide +kernel
def N_law_add : List PySem.Str := ["one", "other"]
theorem sc_law_add : FnScope N_law_add ["one", "other"] (defScope (top 49)) := ⟨rfl, rfl, rfl, by decide +kernel, rfl, by decide +kernel, by decide +kernel⟩
theorem ck_law_add : chkSs Pk ⟨N_law_add, defScope (top 49), fun _ => true, false, false, [], ""⟩ F_law_add.body (defBody (top 49)) = true := by decide +kernel
def N_law_sub : List PySem.Str := ["one", "other"]
theorem sc_law_sub : FnScope N_law_sub ["one", "other"] (defScope (top 50)) := ⟨rfl, rfl, rfl, by decide +kernel, rfl, by decide +kernel, by decide +kernel⟩
theorem ck_law_sub : chkSs Pk ⟨N_law_sub, defScope (top 50), fun _ => true, false, false, [], ""⟩ F_law_sub.body (defBody (top 50)) = true := by decide +kernel
def N_law_less : List PySem.Str := ["one", "other"]
theorem sc_law_less : FnScope N_law_less ["one", "other"] (defScope (top 51)) := ⟨rfl, rfl, rfl, by decide +kernel, rfl, by decide +kernel, by decide +kernel⟩
theorem ck_law_less : chkSs Pk ⟨N_law_less, defScope (top 51), fun _ => true, false, false, [], ""⟩ F_law_less.body (defBody (top 51)) = true := by decide +kernel
def N_law_rising : List PySem.Str := ["hand", "most", "many", "found", "left", "at", "by", "step", "one"]
theorem sc_law_rising : FnScope N_law_rising ["hand", "most"] (defScope (top 52)) := ⟨rfl, rfl, rfl, by decide +kernel, rfl, by decide +kernel, by decide +kernel⟩
theorem ck_law_rising : chkSs Pk ⟨N_law_rising, defScope (top 52), fun _ => true, false, false, [], ""⟩ F_law_rising.body (defBody (top 52)) = true := by decide +kernel
def N_law_odd : List PySem.Str := ["hand", "deep", "turn", "some"]
theorem sc_law_odd : FnScope N_law_odd ["hand"] (defScope (top 53)) := ⟨rfl, rfl, rfl, by decide +kernel, rfl, by decide +kernel, by decide +kernel⟩
theorem ck_law_odd : chkSs Pk ⟨N_law_odd, defScope (top 53), fun _ => true, false, false, [], ""⟩ F_law_odd.body (defBody (top 53)) = true := by decide +kernel
def N_law_disk : List PySem.Str := ["hand", "most", "many", "degree", "at"]
theorem sc_law_disk : FnScope N_law_disk ["hand", "most"] (defScope (top 54)) := ⟨rfl, rfl, rfl, by decide +kernel, rfl, by decide +kernel, by decide +kernel⟩
theorem ck_law_disk : chkSs Pk ⟨N_law_disk, defScope (top 54), fun _ => true, false, false, [], ""⟩ F_law_disk.body (defBody (top 54)) = true := by decide +kernel
def N_law_dot_of : List PySem.Str := ["disk", "dot", "many"]
theorem sc_law_dot_of : FnScope N_law_dot_of ["disk", "dot"] (defScope (top 55)) := ⟨rfl, rfl, rfl, by decide +kernel, rfl, by decide +kernel, by decide +kernel⟩
theorem ck_law_dot_of : chkSs Pk ⟨N_law_dot_of, defScope (top 55), fun _ => true, false, false, [], ""⟩ F_law_dot_of.body (defBody (top 55)) = true := by decide +kernel
def N_law_to : List PySem.Str := ["disk", "point", "dot", "first", "rise"]
theorem sc_law_to : FnScope N_law_to ["disk", "point"] (defScope (top 56)) := ⟨rfl, rfl, rfl, by decide +kernel, rfl, by decide +kernel, by decide +kernel⟩
theorem ck_law_to : chkSs Pk ⟨N_law_to, defScope (top 56), fun _ => true, false, false, [], ""⟩ F_law_to.body (defBody (top 56)) = true := by decide +kernel
def N_law_behind : List PySem.Str := ["disk", "point", "steps", "turn"]
theorem sc_law_behind : FnScope N_law_behind ["disk", "point", "steps"] (defScope (top 57)) := ⟨rfl, rfl, rfl, by decide +kernel, rfl, by decide +kernel, by decide +kernel⟩
theorem ck_law_behind : chkSs Pk ⟨N_law_behind, defScope (top 57), fun _ => true, false, false, [], ""⟩ F_law_behind.body (defBody (top 57)) = true := by decide +kernel
def N_law_on : List PySem.Str := ["many", "point"]
theorem sc_law_on : FnScope N_law_on ["many", "point"] (defScope (top 58)) := ⟨rfl, rfl, rfl, by decide +kernel, rfl, by decide +kernel, by decide +kernel⟩
theorem ck_law_on : chkSs Pk ⟨N_law_on, defScope (top 58), fun _ => true, false, false, [], ""⟩ F_law_on.body (defBody (top 58)) = true := by decide +kernel
def N_law_near : List PySem.Str := ["many", "one", "other", "far", "left"]
theorem sc_law_near : FnScope N_law_near ["many", "one", "other"] (defScope (top 59)) := ⟨rfl, rfl, rfl, by decide +kernel, rfl, by decide +kernel, by decide +kernel⟩
theorem ck_law_near : chkSs Pk ⟨N_law_near, defScope (top 59), fun _ => true, false, false, [], ""⟩ F_law_near.body (defBody (top 59)) = true := by decide +kernel
def N_law_sorted : List PySem.Str := ["some", "found", "one", "at", "other"]
theorem sc_law_sorted : FnScope N_law_sorted ["some"] (defScope (top 60)) := ⟨rfl, rfl, rfl, by decide +kernel, rfl, by decide +kernel, by decide +kernel⟩
theorem ck_law_sorted : chkSs Pk ⟨N_law_sorted, defScope (top 60), fun _ => true, false, false, [], ""⟩ F_law_sorted.body (defBody (top 60)) = true := by decide +kernel
def N_law_pairs : List PySem.Str := ["disk", "one", "other", "pair", "many", "found"]
theorem sc_law_pairs : FnScope N_law_pairs ["disk", "one", "other"] (defScope (top 62)) := ⟨rfl, rfl, rfl, by decide +kernel, rfl, by decide +kernel, by decide +kernel⟩
theorem ck_law_pairs : chkSs Pk ⟨N_law_pairs, defScope (top 62), fun _ => true, false, false, [], ""⟩ F_law_pairs.body (defBody (top 62)) = true := by decide +kernel
def N_law_order : List PySem.Str := ["many", "walkers", "first", "gone", "found", "far", "one", "number"]
theorem sc_law_order : FnScope N_law_order ["many", "walkers"] (defScope (top 63)) := ⟨rfl, rfl, rfl, by decide +kernel, rfl, by decide +kernel, by decide +kernel⟩
theorem ck_law_order : chkSs Pk ⟨N_law_order, defScope (top 63), fun _ => true, false, false, [], ""⟩ F_law_order.body (defBody (top 63)) = true := by decide +kernel
def N_law_are_apart : List PySem.Str := ["many", "walkers", "alike", "one"]
theorem sc_law_are_apart : FnScope N_law_are_apart ["many", "walkers"] (defScope (top 64)) := ⟨rfl, rfl, rfl, by decide +kernel, rfl, by decide +kernel, by decide +kernel⟩
theorem ck_law_are_apart : chkSs Pk ⟨N_law_are_apart, defScope (top 64), fun _ => true, false, false, [], ""⟩ F_law_are_apart.body (defBody (top 64)) = true := by decide +kernel
def N_law_turn : List PySem.Str := ["disk", "walkers", "steps", "order", "turn", "many", "here", "one"]
theorem sc_law_turn : FnScope N_law_turn ["disk", "walkers", "steps"] (defScope (top 65)) := ⟨rfl, rfl, rfl, by decide +kernel, rfl, by decide +kernel, by decide +kernel⟩
theorem ck_law_turn : chkSs Pk ⟨N_law_turn, defScope (top 65), fun _ => true, false, false, [], ""⟩ F_law_turn.body (defBody (top 65)) = true := by decide +kernel
def N_law_drawn : List PySem.Str := ["hand", "many", "found", "turn", "point"]
theorem sc_law_drawn : FnScope N_law_drawn ["hand", "many"] (defScope (top 66)) := ⟨rfl, rfl, rfl, by decide +kernel, rfl, by decide +kernel, by decide +kernel⟩
theorem ck_law_drawn : chkSs Pk ⟨N_law_drawn, defScope (top 66), fun _ => true, false, false, [], ""⟩ F_law_drawn.body (defBody (top 66)) = true := by decide +kernel
def N_law_is_right : List PySem.Str := ["hand", "disk", "is_rising_one", "walkers", "one", "steps", "turn", "board", "many", "other", "pairs", "some", "least", "here", "at", "pair"]
theorem sc_law_is_right : FnScope N_law_is_right ["hand", "disk", "is_rising_one"] (defScope (top 67)) := ⟨rfl, rfl, rfl, by decide +kernel, rfl, by decide +kernel, by decide +kernel⟩
theorem ck_law_is_right : chkSs Pk ⟨N_law_is_right, defScope (top 67), fun _ => true, false, false, [], ""⟩ F_law_is_right.body (defBody (top 67)) = true := by decide +kernel
def N_law_are_refused : List PySem.Str := ["hand", "disk", "walkers", "bad", "steps", "words", "board", "many", "none", "odd"]
theorem sc_law_are_refused : FnScope N_law_are_refused ["hand", "disk"] (defScope (top 68)) := ⟨rfl, rfl, rfl, by decide +kernel, rfl, by decide +kernel, by decide +kernel⟩
theorem ck_law_are_refused : chkSs Pk ⟨N_law_are_refused, defScope (top 68), fun _ => true, true, false, [], ""⟩ F_law_are_refused.body (defBody (top 68)) = true := by decide +kernel
theorem sc_draw : FnScope N_draw ["hand", "many"] (defScope (top 45)) := ⟨rfl, rfl, rfl, by decide +kernel, rfl, by decide +kernel, by decide +kernel⟩
theorem ck_draw : chkZs P0 ⟨N_draw, defScope (top 45), fun _ => true, false, false, [], ""⟩ S_draw (defBody (top 45)) = true := by decide +kernel
theorem sc_ring : FnScope N_ring ["self", "values", "degree"] (defScope (inClass (top 25) 0)) := ⟨rfl, rfl, rfl, by decide +kernel, rfl, by decide +kernel, by decide +kernel⟩
theorem ck_ring : chkRing ⟨N_ring, defScope (inClass (top 25) 0), fun _ => true, false, false, [], ""⟩ (defBody (inClass (top 25) 0)) = true := by decide +kernel
theorem ck_is_integer1 : chkSs P1 ⟨["thing"], defScope (top 9), fun _ => true, false, false, [], ""⟩ F_isint.body (defBody (top 9)) = true := by decide +kernel
theorem ck_is_between1 : chkSs P1 ⟨["thing", "low", "high"], defScope (top 10), fun _ => true, false, false, [], ""⟩ F_isbet.body (defBody (top 10)) = true := by decide +kernel
theorem ck_hand1 : chkHand 211 151 (defScope (top 44)) N_law_hand (defBody (top 44)) = true := by decide +kernel
def N_law : List PySem.Str := ["script", "hand", "known", "lap", "disk", "rising"]
theorem sc_law : FnScope N_law ["script"] (defScope (top 69)) := ⟨rfl, rfl, rfl, by decide +kernel, rfl, by decide +kernel, by decide +kernel⟩
def law1 : Stmt := (defBody (top 69)).getD 0 (.Pass ⟨0, 0, 0, 0⟩)
def lawR : List Stmt := (defBody (top 69)).drop 1
theorem law_eq : defBody (top 69) = law1 :: lawR := by rfl
theorem ck_law1 : chkL1 ⟨N_law, defScope (top 69), fun _ => true, false, false, [], ""⟩ law1 = true := by decide +kernel
theorem ck_lawR : chkSs Pk ⟨N_law, defScope (top 69), fun _ => true, false, false, [], ""⟩ (F_law.body.drop 1) lawR = true := by decide +kernel
def N_word : List PySem.Str := ["call", "error", "flags"]
theorem sc_word : FnScope N_word ["call"] (defScope (top 61)) := ⟨rfl, rfl, rfl, by decide +kernel, rfl, by decide +kernel, by decide +kernel⟩
def coreW (x : PySem.Str) : List S := [.own 2 (.lst [.exi 1 (decide (x = "NoRing")), .exi 1 (decide (x = "NoPoint")), .exi 1 (decide (x = "NoWalkers"))]), .app 2 (.exi 1 (decide (x = "NoNumber"))), .iff (.any [.e (.cmp .ne (.blt .count [.var 2, .bl true]) (.int 1)), .not (.e (.exi 1 true))]) [.ret (.str "other")] [], .ret (.sub (.lst [.str "ring", .str "point", .str "walkers", .str "number"]) (.index (.var 2) (.bl true)))]
theorem ck_word : chkWord "let" (fun su => errL.all fun x => chkSs P0 ⟨N_word, defScope (top 61), fun _ => true, false, true, exsOf (exo x) exb, ""⟩ (coreW x) su) (defBody (top 61)) = true := by decide +kernel
theorem ev_NoRing : ∃ ρ, evSs (cfOf P0 0) (coreW "NoRing") rhoW none = Ev.ok (.ret ρ (.str "ring")) none := ⟨_, by rfl⟩
theorem ev_NoPoint : ∃ ρ, evSs (cfOf P0 0) (coreW "NoPoint") rhoW none = Ev.ok (.ret ρ (.str "point")) none := ⟨_, by rfl⟩
theorem ev_NoWalkers : ∃ ρ, evSs (cfOf P0 0) (coreW "NoWalkers") rhoW none = Ev.ok (.ret ρ (.str "walkers")) none := ⟨_, by rfl⟩
theorem ev_NoNumber : ∃ ρ, evSs (cfOf P0 0) (coreW "NoNumber") rhoW none = Ev.ok (.ret ρ (.str "number")) none := ⟨_, by rfl⟩
end H87
set_option maxHeartbeats 0
namespace H87
open PySem PySem.Spec PyProof.Rows L2 Ev
structure Hy (w : World) (K : PySem.W.Frag) (h : Heap) (mg : PySem.Str → Option Value) : Prop where
  X : K.In h
  G : h.Ns mainGlobals mg
  c : He.SaysX fa fn [] tf ex w h K
def fnL : List PySem.Str := [("_law_draw" : PySem.Str), ("is_integer" : PySem.Str), ("is_between" : PySem.Str), ("common_divisor" : PySem.Str), ("fraction" : PySem.Str), ("whole" : PySem.Str), ("minus" : PySem.Str), ("is_less" : PySem.Str), ("is_fraction" : PySem.Str), ("in_order" : PySem.Str), ("check_ring" : PySem.Str), ("check_point" : PySem.Str), ("dot_value" : PySem.Str), ("value_at" : PySem.Str), ("alike_one" : PySem.Str), ("apart_by" : PySem.Str), ("distances" : PySem.Str), ("check_points" : PySem.Str), ("meet_after" : PySem.Str), ("nearest" : PySem.Str), ("are_walkers" : PySem.Str), ("check_walkers" : PySem.Str), ("raw_order" : PySem.Str), ("order_of" : PySem.Str), ("first_turn" : PySem.Str), ("_law_hand" : PySem.Str), ("_law_any" : PySem.Str), ("_law_is" : PySem.Str), ("_law_low" : PySem.Str), ("_law_add" : PySem.Str), ("_law_sub" : PySem.Str), ("_law_less" : PySem.Str), ("_law_rising" : PySem.Str), ("_law_odd" : PySem.Str), ("_law_disk" : PySem.Str), ("_law_dot_of" : PySem.Str), ("_law_to" : PySem.Str), ("_law_behind" : PySem.Str), ("_law_on" : PySem.Str), ("_law_near" : PySem.Str), ("_law_sorted" : PySem.Str), ("_law_pairs" : PySem.Str), ("_law_order" : PySem.Str), ("_law_are_apart" : PySem.Str), ("_law_turn" : PySem.Str), ("_law_drawn" : PySem.Str), ("_law_is_right" : PySem.Str), ("_law_are_refused" : PySem.Str)]
def kk (K : PySem.W.Frag) (w : World) : Kx := mkK K w clsL errL fnL flT tf
def cst (K : PySem.W.Frag) : List (Addr × Addr) := tf.map (He.cT K)
section
variable {w : World} {K : PySem.W.Frag} {h : Heap} {mg : PySem.Str → Option Value} {base : Heap} {prog : Program}
theorem Hy.d (y : Hy w K h mg) : He.SaysD fa fn K := y.c.t.d
theorem Hy.glo (y : Hy w K h mg) (x : PySem.Str) (i : Nat) (e : fa[i]? = some (.glo x) := by rfl) : mg x = some (.ref (He.ga K x)) := He.glo_ok y.X y.G (y.d.fact i e)
theorem Hy.free (y : Hy w K h mg) (x : PySem.Str) (i : Nat) (e : fa[i]? = some (.free x) := by rfl) : mg x = none := He.free_ok y.X y.G (y.d.fact i e)
theorem Hy.int (y : Hy w K h mg) (x : PySem.Str) (j : Int) (i : Nat) (e : fa[i]? = some (.int x j) := by rfl) : ∃ u, mg x = some u ∧ RelV (.int j) u := by
  obtain ⟨t, q⟩ := He.int_ok y.X y.G (y.d.fact i e)
  exact ⟨_, q, t, rfl⟩
theorem Hy.blt (y : Hy w K h mg) : ∀ x ∈ BLT, mg x = none := by
  unfold BLT
  simp only [List.forall_mem_cons]
  exact ⟨y.free _ 88, y.free _ 79, y.free _ 86, y.free _ 99, y.free _ 89, y.free _ 98, y.free _ 80, y.free _ 81, y.free _ 91, y.free _ 90, y.free _ 93, y.free _ 96, y.free _ 95, y.free _ 92, y.free _ 85, y.free _ 100, y.free _ 87, y.free _ 83, y.free _ 94, y.free _ 82, y.free _ 97, y.free _ 84, fun _ z => by cases z⟩
theorem Hy.ex (y : Hy w K h mg) : (∀ x ∈ clsL, objB K x = true) ∧ kitCB K clsL = true ∧ ∀ x ∈ errL, errB K "RingError" (exo x) exb x = true := by
  obtain ⟨h1, h2⟩ := He.ba y.c.more
  obtain ⟨h2, h3⟩ := He.ba h2
  exact ⟨List.all_eq_true.mp h1, h2, List.all_eq_true.mp h3⟩
theorem two (y : Hy w K h mg) : Two K mg (He.ga K "is_integer") (He.ga K "is_between") := by
  obtain ⟨f1, F1⟩ := y.d.def_ 2 (d := d9) rfl
  obtain ⟨f2, F2⟩ := y.d.def_ 3 (d := d10) rfl
  exact ⟨⟨_, _, _, _, _, F1, sc_is_integer, ck_is_integer1, y.glo _ 12, F1.bindsN fun _ _ _ _ _ _ us hl => match us, hl with | [_], _ => rfl⟩,
    ⟨_, _, _, _, _, F2, sc_is_between, ck_is_between1, y.glo _ 13, F2.bindsN fun _ _ _ _ _ _ us hl => match us, hl with | [_, _, _], _ => rfl⟩⟩
theorem ringG (y : Hy w K h mg) : ∀ x i, P1.gl x = some (.int i) → ∃ u, mg x = some u ∧ RelV (.int i) u := by
  have key : ∀ q ∈ ([("LEAST_DOTS", .int 2), ("MOST_DOTS", .int 8), ("MOST_VALUE", .int 60), ("MOST_DEGREE", .int 4)] : List (PySem.Str × D)), ∀ i, q.2 = .int i → ∃ u, mg q.1 = some u ∧ RelV (.int i) u := by
    simp only [List.forall_mem_cons]
    exact ⟨fun i e => by cases e; exact y.int _ _ 21, fun i e => by cases e; exact y.int _ _ 22, fun i e => by cases e; exact y.int _ _ 23, fun i e => by cases e; exact y.int _ _ 24, fun _ z => by cases z⟩
  intro x i e
  exact key (x, .int i) (PySem.mem_of_lookup e) i rfl
theorem ringN (y : Hy w K h mg) (a0 : Addr) : ∀ x C, ((kk K w).at a0).cls x = some C → ∃ f fd ps l, Mk K C f ∧ FnOk prog w K mg base (L2.CX prog w) l f fd ps (SpNew ((kk K w).at a0) Pk x C ps) ∧ L2.Binds K fd ps [] ∧ l + 1 ≤ Pk.nwL ∧ ∀ ds d, Pk.nw x ds = some d → ds.length + 1 = ps.length ∧ ∃ fs, d = .obj x fs := by
  intro x C e
  obtain ⟨m, rfl⟩ := mk_at e
  have m : x = "Ring" := List.mem_singleton.mp m
  subst m
  obtain ⟨fd, FD⟩ := y.d.def_ 11 (d := d25_0) rfl
  refine ⟨_, fd, ["self", "values", "degree"], 4, He.mkr_ok (y.d.fact 29 rfl), ring_ok (k := (kk K w).at a0) rfl rfl y.blt (ringG y) (two y) (He.cls_ok (y.d.fact 28 rfl)) ?_ rfl (fun _ => rfl) FD sc_ring ck_ring, FD.bindsN fun _ _ _ _ _ _ us hl => match us, hl with | [_, _, _], _ => rfl, Nat.le_refl _, fun ds d e => ?_⟩
  · simp only [List.forall_mem_cons]
    exact ⟨He.noat_ok (y.d.fact 31 rfl), He.noat_ok (y.d.fact 30 rfl), He.noat_ok (y.d.fact 32 rfl), fun _ z => by cases z⟩
  · obtain ⟨vs, i, ns, ρ, ws, e1, ms, rfl, _, _, _, _, _, _, _, rfl⟩ := ringR_some (show ringR ds = some d from e)
    exact ⟨rfl, _, rfl⟩
theorem bd (y : Hy w K h mg) (a0 : Addr) : Bd ((kk K w).at a0) Pk prog w K mg base where
  hK := rfl
  hw := rfl
  fl := rfl
  blt := y.blt
  gl := fun x d e => by
    have key : ∀ q ∈ glT, ∃ i, q.2 = .int i ∧ ∃ u, mg q.1 = some u ∧ RelV (.int i) u := by
      unfold glT
      simp only [List.forall_mem_cons]
      exact ⟨⟨_, rfl, y.int _ _ 26⟩, ⟨_, rfl, y.int _ _ 25⟩, ⟨_, rfl, y.int _ _ 41⟩, fun _ z => by cases z⟩
    obtain ⟨i, e1, u, e2, e3⟩ := key (x, d) (PySem.mem_of_lookup e)
    have e1 : d = .int i := e1
    subst e1
    exact ⟨u, .int i, e2, e3, fun F => .int i⟩
  objs := fun x C e => by
    obtain ⟨m, rfl⟩ := mk_at e
    have m : x = "Ring" := List.mem_singleton.mp m
    subst m
    refine ⟨He.cls_ok (y.d.fact 28 rfl), ?_⟩
    show ∀ f ∈ [("dots" : PySem.Str), "degree", "many"], _
    simp only [List.forall_mem_cons]
    exact ⟨He.noat_ok (y.d.fact 31 rfl), He.noat_ok (y.d.fact 30 rfl), He.noat_ok (y.d.fact 32 rfl), fun _ z => by cases z⟩
  objT := fun x C e => by
    obtain ⟨m, rfl⟩ := mk_at e
    exact objT_of (y.ex.1 x m)
  ownN := fun x C e => by
    obtain ⟨m, rfl⟩ := mk_at e
    have m : x = "Ring" := List.mem_singleton.mp m
    subst m
    decide
  clsG := fun x C e => by
    obtain ⟨m, rfl⟩ := mk_at e
    have m : x = "Ring" := List.mem_singleton.mp m
    subst m
    exact y.glo _ 27
  news := ringN y a0
  hfn := fun f e => mk_has (by
    have e : (decide (f = "_law_draw") || (fnT.map (·.1)).contains f) = true := e
    rw [Bool.or_eq_true, decide_eq_true_eq] at e
    rcases e with rfl | e
    · decide
    · show List.contains (("_law_draw" : PySem.Str) :: fnT.map (·.1)) f = true
      rw [List.contains_cons, e, Bool.or_true])
  hcl := fun t e => by
    have e : (["tuple", "list", "int", "bool", "str", "Ring"] : List PySem.Str).contains t = true := e
    simp only [List.contains_cons, List.contains_nil, Bool.or_false, Bool.or_eq_true, beq_iff_eq] at e
    rcases e with rfl | rfl | rfl | rfl | rfl | rfl
    · left; decide
    · left; decide
    · left; decide
    · left; decide
    · left; decide
    · right; exact ⟨He.ga K "Ring", rfl⟩
  hex := fun x e => by
    have key : ∀ x ∈ errL, (PySem.W.excIn K (He.ga K x) He.veBase "ValueError.__new__" = true ∧ PySem.W.keepIn K (.ref (He.ga K x)) = true ∧ PySem.W.subIn K (.ref (He.ga K x)) (.type "BaseException") = some true ∧ PySem.W.typeIn K (.ref (He.ga K x)) = some (.type "type")) ∧ mg x = some (.ref (He.ga K x)) := by
      unfold errL
      simp only [List.forall_mem_cons]
      exact ⟨⟨He.exc_ok (y.d.fact 4 rfl), y.glo _ 3⟩, ⟨He.exc_ok (y.d.fact 6 rfl), y.glo _ 5⟩, ⟨He.exc_ok (y.d.fact 11 rfl), y.glo _ 10⟩, ⟨He.exc_ok (y.d.fact 8 rfl), y.glo _ 7⟩, fun _ z => by cases z⟩
    have e : exT.contains x = true := e
    have m : x ∈ errL := by simpa [exT, errL] using e
    obtain ⟨⟨h1, h2, h3, h4⟩, h5⟩ := key x m
    exact ⟨_, _, _, _, _, PySem.F.excBase_ValueError, h1, h5, h2, h3, h4, if_pos (by simpa using m)⟩
  isi := isi_of (fun x C e => mk_at e) y.ex.2.1
theorem gives {X : Cx} (y : Hy w K h mg) (a0 : Addr) (hw : X.w = w) (hK : X.K = K) (hm : X.mg = mg) (hr : Room 0 X.A) {q : PySem.Str} {g : Addr} (cdv : Value) : LamX.GivesTo X N_word "_law_word" (defScope (top 61)) g cdv (defBody (top 61)) "call" q (TTw ((kk K w).at a0) Pk) := by
  subst hw hK hm
  refine word_gives2 (k := (kk X.K X.w).at a0) rfl rfl y.blt hr sc_word rfl rfl rfl (by decide +kernel) (by decide +kernel) (y.glo _ 0) ck_word (fun x C wd e1 e2 => ?_) rfl
  obtain ⟨m, rfl⟩ := mk_at e1
  refine ⟨m, errC_of (y.ex.2.2 x m) ?_ ?_, ?_⟩
  · intro q hq
    obtain ⟨z, hz, rfl⟩ := List.mem_map.mp hq
    have key : ∀ z ∈ errL, X.mg z = some (.ref (He.ga X.K z)) := by
      unfold errL
      simp only [List.forall_mem_cons]
      exact ⟨y.glo _ 3, y.glo _ 5, y.glo _ 10, y.glo _ 7, fun _ z => by cases z⟩
    exact key z hz
  · unfold exb
    simp only [List.forall_mem_cons]
    exact ⟨⟨y.free _ 78, by rfl⟩, fun _ z => by cases z⟩
  · have e2 : wdT.lookup x = some wd := e2
    have m2 := PySem.mem_of_lookup e2
    have key : ∀ q ∈ wdT, ∃ ρ, evSs (cfOf P0 0) (coreW q.1) rhoW none = Ev.ok (.ret ρ (.str q.2)) none := by
      unfold wdT
      simp only [List.forall_mem_cons]
      exact ⟨ev_NoRing, ev_NoPoint, ev_NoWalkers, ev_NoNumber, fun _ z => by cases z⟩
    exact key (x, wd) m2
def Cov (prog : Program) (w : World) (K : PySem.W.Frag) (mg : PySem.Str → Option Value) (base : Heap) (a0 : Addr) (f : PySem.Str) : Prop := (∃ wo qual params body scope fd ps N fn, DefOk ((kk K w).at a0) Pk prog w K mg base wo f (He.ga K f) qual params body scope fd ps N fn) ∨ ∃ l p fd ps, PrimOk ((kk K w).at a0) Pk prog w K mg base f (He.ga K f) l p fd ps
theorem D_is_integer (y : Hy w K h mg) (a0 : Addr) : Cov prog w K mg base a0 "is_integer" := by
  obtain ⟨fd, FD⟩ := y.d.def_ 2 (d := d9) rfl
  exact .inl ⟨false, _, _, _, _, fd, ["thing"], N_is_integer, F_is_integer, ⟨rfl, rfl, FD, sc_is_integer, ck_is_integer, (fun z => by cases z), rfl, rfl, y.glo _ 12, FD.bindsN fun _ _ _ _ _ _ us hl => match us, hl with | [_], _ => rfl⟩⟩
theorem D_is_between (y : Hy w K h mg) (a0 : Addr) : Cov prog w K mg base a0 "is_between" := by
  obtain ⟨fd, FD⟩ := y.d.def_ 3 (d := d10) rfl
  exact .inl ⟨false, _, _, _, _, fd, ["thing", "low", "high"], N_is_between, F_is_between, ⟨rfl, rfl, FD, sc_is_between, ck_is_between, (fun z => by cases z), rfl, rfl, y.glo _ 13, FD.bindsN fun _ _ _ _ _ _ us hl => match us, hl with | [_, _, _], _ => rfl⟩⟩
theorem D_common_divisor (y : Hy w K h mg) (a0 : Addr) : Cov prog w K mg base a0 "common_divisor" := by
  obtain ⟨fd, FD⟩ := y.d.def_ 4 (d := d11) rfl
  exact .inl ⟨false, _, _, _, _, fd, ["one", "other"], N_common_divisor, F_common_divisor, ⟨rfl, rfl, FD, sc_common_divisor, ck_common_divisor, (fun z => by cases z), rfl, rfl, y.glo _ 14, FD.bindsN fun _ _ _ _ _ _ us hl => match us, hl with | [_, _], _ => rfl⟩⟩
theorem D_fraction (y : Hy w K h mg) (a0 : Addr) : Cov prog w K mg base a0 "fraction" := by
  obtain ⟨fd, FD⟩ := y.d.def_ 5 (d := d12) rfl
  exact .inl ⟨false, _, _, _, _, fd, ["top", "bottom"], N_fraction, F_fraction, ⟨rfl, rfl, FD, sc_fraction, ck_fraction, (fun z => by cases z), rfl, rfl, y.glo _ 15, FD.bindsN fun _ _ _ _ _ _ us hl => match us, hl with | [_, _], _ => rfl⟩⟩
theorem D_whole (y : Hy w K h mg) (a0 : Addr) : Cov prog w K mg base a0 "whole" := by
  obtain ⟨fd, FD⟩ := y.d.def_ 6 (d := d13) rfl
  exact .inl ⟨false, _, _, _, _, fd, ["number"], N_whole, F_whole, ⟨rfl, rfl, FD, sc_whole, ck_whole, (fun z => by cases z), rfl, rfl, y.glo _ 16, FD.bindsN fun _ _ _ _ _ _ us hl => match us, hl with | [_], _ => rfl⟩⟩
theorem D_minus (y : Hy w K h mg) (a0 : Addr) : Cov prog w K mg base a0 "minus" := by
  obtain ⟨fd, FD⟩ := y.d.def_ 7 (d := d14) rfl
  exact .inl ⟨false, _, _, _, _, fd, ["one", "other"], N_minus, F_minus, ⟨rfl, rfl, FD, sc_minus, ck_minus, (fun z => by cases z), rfl, rfl, y.glo _ 17, FD.bindsN fun _ _ _ _ _ _ us hl => match us, hl with | [_, _], _ => rfl⟩⟩
theorem D_is_less (y : Hy w K h mg) (a0 : Addr) : Cov prog w K mg base a0 "is_less" := by
  obtain ⟨fd, FD⟩ := y.d.def_ 8 (d := d15) rfl
  exact .inl ⟨false, _, _, _, _, fd, ["one", "other"], N_is_less, F_is_less, ⟨rfl, rfl, FD, sc_is_less, ck_is_less, (fun z => by cases z), rfl, rfl, y.glo _ 18, FD.bindsN fun _ _ _ _ _ _ us hl => match us, hl with | [_, _], _ => rfl⟩⟩
theorem D_is_fraction (y : Hy w K h mg) (a0 : Addr) : Cov prog w K mg base a0 "is_fraction" := by
  obtain ⟨fd, FD⟩ := y.d.def_ 9 (d := d16) rfl
  exact .inl ⟨false, _, _, _, _, fd, ["thing"], N_is_fraction, F_is_fraction, ⟨rfl, rfl, FD, sc_is_fraction, ck_is_fraction, (fun z => by cases z), rfl, rfl, y.glo _ 19, FD.bindsN fun _ _ _ _ _ _ us hl => match us, hl with | [_], _ => rfl⟩⟩
theorem D_in_order (y : Hy w K h mg) (a0 : Addr) : Cov prog w K mg base a0 "in_order" := by
  obtain ⟨fd, FD⟩ := y.d.def_ 10 (d := d17) rfl
  exact .inl ⟨false, _, _, _, _, fd, ["some"], N_in_order, F_in_order, ⟨rfl, rfl, FD, sc_in_order, ck_in_order, (fun z => by cases z), rfl, rfl, y.glo _ 20, FD.bindsN fun _ _ _ _ _ _ us hl => match us, hl with | [_], _ => rfl⟩⟩
theorem D_check_ring (y : Hy w K h mg) (a0 : Addr) : Cov prog w K mg base a0 "check_ring" := by
  obtain ⟨fd, FD⟩ := y.d.def_ 14 (d := d26) rfl
  exact .inl ⟨false, _, _, _, _, fd, ["thing"], N_check_ring, F_check_ring, ⟨rfl, rfl, FD, sc_check_ring, ck_check_ring, (fun z => by cases z), rfl, rfl, y.glo _ 36, FD.bindsN fun _ _ _ _ _ _ us hl => match us, hl with | [_], _ => rfl⟩⟩
theorem D_check_point (y : Hy w K h mg) (a0 : Addr) : Cov prog w K mg base a0 "check_point" := by
  obtain ⟨fd, FD⟩ := y.d.def_ 15 (d := d27) rfl
  exact .inl ⟨false, _, _, _, _, fd, ["point"], N_check_point, F_check_point, ⟨rfl, rfl, FD, sc_check_point, ck_check_point, (fun z => by cases z), rfl, rfl, y.glo _ 37, FD.bindsN fun _ _ _ _ _ _ us hl => match us, hl with | [_], _ => rfl⟩⟩
theorem D_dot_value (y : Hy w K h mg) (a0 : Addr) : Cov prog w K mg base a0 "dot_value" := by
  obtain ⟨fd, FD⟩ := y.d.def_ 16 (d := d28) rfl
  exact .inl ⟨false, _, _, _, _, fd, ["ring", "dot"], N_dot_value, F_dot_value, ⟨rfl, rfl, FD, sc_dot_value, ck_dot_value, (fun z => by cases z), rfl, rfl, y.glo _ 38, FD.bindsN fun _ _ _ _ _ _ us hl => match us, hl with | [_, _], _ => rfl⟩⟩
theorem D_value_at (y : Hy w K h mg) (a0 : Addr) : Cov prog w K mg base a0 "value_at" := by
  obtain ⟨fd, FD⟩ := y.d.def_ 17 (d := d29) rfl
  exact .inl ⟨false, _, _, _, _, fd, ["ring", "point"], N_value_at, F_value_at, ⟨rfl, rfl, FD, sc_value_at, ck_value_at, (fun z => by cases z), rfl, rfl, y.glo _ 39, FD.bindsN fun _ _ _ _ _ _ us hl => match us, hl with | [_, _], _ => rfl⟩⟩
theorem D_alike_one (y : Hy w K h mg) (a0 : Addr) : Cov prog w K mg base a0 "alike_one" := by
  obtain ⟨fd, FD⟩ := y.d.def_ 18 (d := d30) rfl
  exact .inl ⟨false, _, _, _, _, fd, ["ring", "point"], N_alike_one, F_alike_one, ⟨rfl, rfl, FD, sc_alike_one, ck_alike_one, (fun z => by cases z), rfl, rfl, y.glo _ 40, FD.bindsN fun _ _ _ _ _ _ us hl => match us, hl with | [_, _], _ => rfl⟩⟩
theorem D_apart_by (y : Hy w K h mg) (a0 : Addr) : Cov prog w K mg base a0 "apart_by" := by
  obtain ⟨fd, FD⟩ := y.d.def_ 19 (d := d33) rfl
  exact .inl ⟨false, _, _, _, _, fd, ["ring", "one", "other"], N_apart_by, F_apart_by, ⟨rfl, rfl, FD, sc_apart_by, ck_apart_by, (fun z => by cases z), rfl, rfl, y.glo _ 42, FD.bindsN fun _ _ _ _ _ _ us hl => match us, hl with | [_, _, _], _ => rfl⟩⟩
theorem D_distances (y : Hy w K h mg) (a0 : Addr) : Cov prog w K mg base a0 "distances" := by
  obtain ⟨fd, FD⟩ := y.d.def_ 20 (d := d34) rfl
  exact .inl ⟨false, _, _, _, _, fd, ["ring", "one", "other"], N_distances, F_distances, ⟨rfl, rfl, FD, sc_distances, ck_distances, (fun z => by cases z), rfl, rfl, y.glo _ 43, FD.bindsN fun _ _ _ _ _ _ us hl => match us, hl with | [_, _, _], _ => rfl⟩⟩
theorem D_check_points (y : Hy w K h mg) (a0 : Addr) : Cov prog w K mg base a0 "check_points" := by
  obtain ⟨fd, FD⟩ := y.d.def_ 21 (d := d35) rfl
  exact .inl ⟨false, _, _, _, _, fd, ["ring", "one", "other"], N_check_points, F_check_points, ⟨rfl, rfl, FD, sc_check_points, ck_check_points, (fun z => by cases z), rfl, rfl, y.glo _ 44, FD.bindsN fun _ _ _ _ _ _ us hl => match us, hl with | [_, _, _], _ => rfl⟩⟩
theorem D_meet_after (y : Hy w K h mg) (a0 : Addr) : Cov prog w K mg base a0 "meet_after" := by
  obtain ⟨fd, FD⟩ := y.d.def_ 22 (d := d36) rfl
  exact .inl ⟨false, _, _, _, _, fd, ["ring", "one", "other"], N_meet_after, F_meet_after, ⟨rfl, rfl, FD, sc_meet_after, ck_meet_after, (fun z => by cases z), rfl, rfl, y.glo _ 45, FD.bindsN fun _ _ _ _ _ _ us hl => match us, hl with | [_, _, _], _ => rfl⟩⟩
theorem D_nearest (y : Hy w K h mg) (a0 : Addr) : Cov prog w K mg base a0 "nearest" := by
  obtain ⟨fd, FD⟩ := y.d.def_ 23 (d := d37) rfl
  exact .inl ⟨false, _, _, _, _, fd, ["ring", "one", "other"], N_nearest, F_nearest, ⟨rfl, rfl, FD, sc_nearest, ck_nearest, (fun z => by cases z), rfl, rfl, y.glo _ 46, FD.bindsN fun _ _ _ _ _ _ us hl => match us, hl with | [_, _, _], _ => rfl⟩⟩
theorem D_are_walkers (y : Hy w K h mg) (a0 : Addr) : Cov prog w K mg base a0 "are_walkers" := by
  obtain ⟨fd, FD⟩ := y.d.def_ 24 (d := d38) rfl
  exact .inl ⟨false, _, _, _, _, fd, ["ring", "thing"], N_are_walkers, F_are_walkers, ⟨rfl, rfl, FD, sc_are_walkers, ck_are_walkers, (fun z => by cases z), rfl, rfl, y.glo _ 47, FD.bindsN fun _ _ _ _ _ _ us hl => match us, hl with | [_, _], _ => rfl⟩⟩
theorem D_check_walkers (y : Hy w K h mg) (a0 : Addr) : Cov prog w K mg base a0 "check_walkers" := by
  obtain ⟨fd, FD⟩ := y.d.def_ 25 (d := d39) rfl
  exact .inl ⟨false, _, _, _, _, fd, ["ring", "walkers"], N_check_walkers, F_check_walkers, ⟨rfl, rfl, FD, sc_check_walkers, ck_check_walkers, (fun z => by cases z), rfl, rfl, y.glo _ 48, FD.bindsN fun _ _ _ _ _ _ us hl => match us, hl with | [_, _], _ => rfl⟩⟩
theorem D_raw_order (y : Hy w K h mg) (a0 : Addr) : Cov prog w K mg base a0 "raw_order" := by
  obtain ⟨fd, FD⟩ := y.d.def_ 26 (d := d40) rfl
  exact .inl ⟨false, _, _, _, _, fd, ["ring", "walkers"], N_raw_order, F_raw_order, ⟨rfl, rfl, FD, sc_raw_order, ck_raw_order, (fun z => by cases z), rfl, rfl, y.glo _ 49, FD.bindsN fun _ _ _ _ _ _ us hl => match us, hl with | [_, _], _ => rfl⟩⟩
theorem D_order_of (y : Hy w K h mg) (a0 : Addr) : Cov prog w K mg base a0 "order_of" := by
  obtain ⟨fd, FD⟩ := y.d.def_ 27 (d := d41) rfl
  exact .inl ⟨false, _, _, _, _, fd, ["ring", "walkers"], N_order_of, F_order_of, ⟨rfl, rfl, FD, sc_order_of, ck_order_of, (fun z => by cases z), rfl, rfl, y.glo _ 50, FD.bindsN fun _ _ _ _ _ _ us hl => match us, hl with | [_, _], _ => rfl⟩⟩
theorem D_first_turn (y : Hy w K h mg) (a0 : Addr) : Cov prog w K mg base a0 "first_turn" := by
  obtain ⟨fd, FD⟩ := y.d.def_ 28 (d := d42) rfl
  exact .inl ⟨false, _, _, _, _, fd, ["ring", "walkers", "steps"], N_first_turn, F_first_turn, ⟨rfl, rfl, FD, sc_first_turn, ck_first_turn, (fun z => by cases z), rfl, rfl, y.glo _ 51, FD.bindsN fun _ _ _ _ _ _ us hl => match us, hl with | [_, _, _], _ => rfl⟩⟩
theorem D_law_hand (y : Hy w K h mg) (a0 : Addr) : Cov prog w K mg base a0 "_law_hand" := by
  obtain ⟨fd, FD⟩ := y.d.def_ 29 (d := d44) rfl
  exact .inl ⟨false, _, _, _, _, fd, ["script"], N_law_hand, F_law_hand, ⟨rfl, rfl, FD, sc_law_hand, ck_law_hand, (fun z => by cases z), rfl, rfl, y.glo _ 52, FD.bindsN fun _ _ _ _ _ _ us hl => match us, hl with | [_], _ => rfl⟩⟩
theorem D_law_any (y : Hy w K h mg) (a0 : Addr) : Cov prog w K mg base a0 "_law_any" := by
  obtain ⟨fd, FD⟩ := y.d.def_ 31 (d := d46) rfl
  exact .inl ⟨false, _, _, _, _, fd, ["hand", "things"], N_law_any, F_law_any, ⟨rfl, rfl, FD, sc_law_any, ck_law_any, (fun z => by cases z), rfl, rfl, y.glo _ 54, FD.bindsN fun _ _ _ _ _ _ us hl => match us, hl with | [_, _], _ => rfl⟩⟩
theorem D_law_is (y : Hy w K h mg) (a0 : Addr) : Cov prog w K mg base a0 "_law_is" := by
  obtain ⟨fd, FD⟩ := y.d.def_ 32 (d := d47) rfl
  exact .inl ⟨false, _, _, _, _, fd, ["got", "due"], N_law_is, F_law_is, ⟨rfl, rfl, FD, sc_law_is, ck_law_is, (fun z => by cases z), rfl, rfl, y.glo _ 55, FD.bindsN fun _ _ _ _ _ _ us hl => match us, hl with | [_, _], _ => rfl⟩⟩
theorem D_law_low (y : Hy w K h mg) (a0 : Addr) : Cov prog w K mg base a0 "_law_low" := by
  obtain ⟨fd, FD⟩ := y.d.def_ 33 (d := d48) rfl
  exact .inl ⟨false, _, _, _, _, fd, ["top", "bottom"], N_law_low, F_law_low, ⟨rfl, rfl, FD, sc_law_low, ck_law_low, (fun z => by cases z), rfl, rfl, y.glo _ 56, FD.bindsN fun _ _ _ _ _ _ us hl => match us, hl with | [_, _], _ => rfl⟩⟩
theorem D_law_add (y : Hy w K h mg) (a0 : Addr) : Cov prog w K mg base a0 "_law_add" := by
  obtain ⟨fd, FD⟩ := y.d.def_ 34 (d := d49) rfl
  exact .inl ⟨false, _, _, _, _, fd, ["one", "other"], N_law_add, F_law_add, ⟨rfl, rfl, FD, sc_law_add, ck_law_add, (fun z => by cases z), rfl, rfl, y.glo _ 57, FD.bindsN fun _ _ _ _ _ _ us hl => match us, hl with | [_, _], _ => rfl⟩⟩
theorem D_law_sub (y : Hy w K h mg) (a0 : Addr) : Cov prog w K mg base a0 "_law_sub" := by
  obtain ⟨fd, FD⟩ := y.d.def_ 35 (d := d50) rfl
  exact .inl ⟨false, _, _, _, _, fd, ["one", "other"], N_law_sub, F_law_sub, ⟨rfl, rfl, FD, sc_law_sub, ck_law_sub, (fun z => by cases z), rfl, rfl, y.glo _ 58, FD.bindsN fun _ _ _ _ _ _ us hl => match us, hl with | [_, _], _ => rfl⟩⟩
theorem D_law_less (y : Hy w K h mg) (a0 : Addr) : Cov prog w K mg base a0 "_law_less" := by
  obtain ⟨fd, FD⟩ := y.d.def_ 36 (d := d51) rfl
  exact .inl ⟨false, _, _, _, _, fd, ["one", "other"], N_law_less, F_law_less, ⟨rfl, rfl, FD, sc_law_less, ck_law_less, (fun z => by cases z), rfl, rfl, y.glo _ 59, FD.bindsN fun _ _ _ _ _ _ us hl => match us, hl with | [_, _], _ => rfl⟩⟩
theorem D_law_rising (y : Hy w K h mg) (a0 : Addr) : Cov prog w K mg base a0 "_law_rising" := by
  obtain ⟨fd, FD⟩ := y.d.def_ 37 (d := d52) rfl
  exact .inl ⟨false, _, _, _, _, fd, ["hand", "most"], N_law_rising, F_law_rising, ⟨rfl, rfl, FD, sc_law_rising, ck_law_rising, (fun z => by cases z), rfl, rfl, y.glo _ 60, FD.bindsN fun _ _ _ _ _ _ us hl => match us, hl with | [_, _], _ => rfl⟩⟩
theorem D_law_odd (y : Hy w K h mg) (a0 : Addr) : Cov prog w K mg base a0 "_law_odd" := by
  obtain ⟨fd, FD⟩ := y.d.def_ 38 (d := d53) rfl
  exact .inl ⟨false, _, _, _, _, fd, ["hand"], N_law_odd, F_law_odd, ⟨rfl, rfl, FD, sc_law_odd, ck_law_odd, (fun z => by cases z), rfl, rfl, y.glo _ 61, FD.bindsN fun _ _ _ _ _ _ us hl => match us, hl with | [_], _ => rfl⟩⟩
theorem D_law_disk (y : Hy w K h mg) (a0 : Addr) : Cov prog w K mg base a0 "_law_disk" := by
  obtain ⟨fd, FD⟩ := y.d.def_ 39 (d := d54) rfl
  exact .inl ⟨false, _, _, _, _, fd, ["hand", "most"], N_law_disk, F_law_disk, ⟨rfl, rfl, FD, sc_law_disk, ck_law_disk, (fun z => by cases z), rfl, rfl, y.glo _ 62, FD.bindsN fun _ _ _ _ _ _ us hl => match us, hl with | [_, _], _ => rfl⟩⟩
theorem D_law_dot_of (y : Hy w K h mg) (a0 : Addr) : Cov prog w K mg base a0 "_law_dot_of" := by
  obtain ⟨fd, FD⟩ := y.d.def_ 40 (d := d55) rfl
  exact .inl ⟨false, _, _, _, _, fd, ["disk", "dot"], N_law_dot_of, F_law_dot_of, ⟨rfl, rfl, FD, sc_law_dot_of, ck_law_dot_of, (fun z => by cases z), rfl, rfl, y.glo _ 63, FD.bindsN fun _ _ _ _ _ _ us hl => match us, hl with | [_, _], _ => rfl⟩⟩
theorem D_law_to (y : Hy w K h mg) (a0 : Addr) : Cov prog w K mg base a0 "_law_to" := by
  obtain ⟨fd, FD⟩ := y.d.def_ 41 (d := d56) rfl
  exact .inl ⟨false, _, _, _, _, fd, ["disk", "point"], N_law_to, F_law_to, ⟨rfl, rfl, FD, sc_law_to, ck_law_to, (fun z => by cases z), rfl, rfl, y.glo _ 64, FD.bindsN fun _ _ _ _ _ _ us hl => match us, hl with | [_, _], _ => rfl⟩⟩
theorem D_law_behind (y : Hy w K h mg) (a0 : Addr) : Cov prog w K mg base a0 "_law_behind" := by
  obtain ⟨fd, FD⟩ := y.d.def_ 42 (d := d57) rfl
  exact .inl ⟨false, _, _, _, _, fd, ["disk", "point", "steps"], N_law_behind, F_law_behind, ⟨rfl, rfl, FD, sc_law_behind, ck_law_behind, (fun z => by cases z), rfl, rfl, y.glo _ 65, FD.bindsN fun _ _ _ _ _ _ us hl => match us, hl with | [_, _, _], _ => rfl⟩⟩
theorem D_law_on (y : Hy w K h mg) (a0 : Addr) : Cov prog w K mg base a0 "_law_on" := by
  obtain ⟨fd, FD⟩ := y.d.def_ 43 (d := d58) rfl
  exact .inl ⟨false, _, _, _, _, fd, ["many", "point"], N_law_on, F_law_on, ⟨rfl, rfl, FD, sc_law_on, ck_law_on, (fun z => by cases z), rfl, rfl, y.glo _ 66, FD.bindsN fun _ _ _ _ _ _ us hl => match us, hl with | [_, _], _ => rfl⟩⟩
theorem D_law_near (y : Hy w K h mg) (a0 : Addr) : Cov prog w K mg base a0 "_law_near" := by
  obtain ⟨fd, FD⟩ := y.d.def_ 44 (d := d59) rfl
  exact .inl ⟨false, _, _, _, _, fd, ["many", "one", "other"], N_law_near, F_law_near, ⟨rfl, rfl, FD, sc_law_near, ck_law_near, (fun z => by cases z), rfl, rfl, y.glo _ 67, FD.bindsN fun _ _ _ _ _ _ us hl => match us, hl with | [_, _, _], _ => rfl⟩⟩
theorem D_law_sorted (y : Hy w K h mg) (a0 : Addr) : Cov prog w K mg base a0 "_law_sorted" := by
  obtain ⟨fd, FD⟩ := y.d.def_ 45 (d := d60) rfl
  exact .inl ⟨false, _, _, _, _, fd, ["some"], N_law_sorted, F_law_sorted, ⟨rfl, rfl, FD, sc_law_sorted, ck_law_sorted, (fun z => by cases z), rfl, rfl, y.glo _ 68, FD.bindsN fun _ _ _ _ _ _ us hl => match us, hl with | [_], _ => rfl⟩⟩
theorem D_law_pairs (y : Hy w K h mg) (a0 : Addr) : Cov prog w K mg base a0 "_law_pairs" := by
  obtain ⟨fd, FD⟩ := y.d.def_ 47 (d := d62) rfl
  exact .inl ⟨false, _, _, _, _, fd, ["disk", "one", "other"], N_law_pairs, F_law_pairs, ⟨rfl, rfl, FD, sc_law_pairs, ck_law_pairs, (fun z => by cases z), rfl, rfl, y.glo _ 70, FD.bindsN fun _ _ _ _ _ _ us hl => match us, hl with | [_, _, _], _ => rfl⟩⟩
theorem D_law_order (y : Hy w K h mg) (a0 : Addr) : Cov prog w K mg base a0 "_law_order" := by
  obtain ⟨fd, FD⟩ := y.d.def_ 48 (d := d63) rfl
  exact .inl ⟨false, _, _, _, _, fd, ["many", "walkers"], N_law_order, F_law_order, ⟨rfl, rfl, FD, sc_law_order, ck_law_order, (fun z => by cases z), rfl, rfl, y.glo _ 71, FD.bindsN fun _ _ _ _ _ _ us hl => match us, hl with | [_, _], _ => rfl⟩⟩
theorem D_law_are_apart (y : Hy w K h mg) (a0 : Addr) : Cov prog w K mg base a0 "_law_are_apart" := by
  obtain ⟨fd, FD⟩ := y.d.def_ 49 (d := d64) rfl
  exact .inl ⟨false, _, _, _, _, fd, ["many", "walkers"], N_law_are_apart, F_law_are_apart, ⟨rfl, rfl, FD, sc_law_are_apart, ck_law_are_apart, (fun z => by cases z), rfl, rfl, y.glo _ 72, FD.bindsN fun _ _ _ _ _ _ us hl => match us, hl with | [_, _], _ => rfl⟩⟩
theorem D_law_turn (y : Hy w K h mg) (a0 : Addr) : Cov prog w K mg base a0 "_law_turn" := by
  obtain ⟨fd, FD⟩ := y.d.def_ 50 (d := d65) rfl
  exact .inl ⟨false, _, _, _, _, fd, ["disk", "walkers", "steps"], N_law_turn, F_law_turn, ⟨rfl, rfl, FD, sc_law_turn, ck_law_turn, (fun z => by cases z), rfl, rfl, y.glo _ 73, FD.bindsN fun _ _ _ _ _ _ us hl => match us, hl with | [_, _, _], _ => rfl⟩⟩
theorem D_law_drawn (y : Hy w K h mg) (a0 : Addr) : Cov prog w K mg base a0 "_law_drawn" := by
  obtain ⟨fd, FD⟩ := y.d.def_ 51 (d := d66) rfl
  exact .inl ⟨false, _, _, _, _, fd, ["hand", "many"], N_law_drawn, F_law_drawn, ⟨rfl, rfl, FD, sc_law_drawn, ck_law_drawn, (fun z => by cases z), rfl, rfl, y.glo _ 74, FD.bindsN fun _ _ _ _ _ _ us hl => match us, hl with | [_, _], _ => rfl⟩⟩
theorem D_law_is_right (y : Hy w K h mg) (a0 : Addr) : Cov prog w K mg base a0 "_law_is_right" := by
  obtain ⟨fd, FD⟩ := y.d.def_ 52 (d := d67) rfl
  exact .inl ⟨false, _, _, _, _, fd, ["hand", "disk", "is_rising_one"], N_law_is_right, F_law_is_right, ⟨rfl, rfl, FD, sc_law_is_right, ck_law_is_right, (fun z => by cases z), rfl, rfl, y.glo _ 75, FD.bindsN fun _ _ _ _ _ _ us hl => match us, hl with | [_, _, _], _ => rfl⟩⟩
theorem D_law_are_refused (y : Hy w K h mg) (a0 : Addr) (TB : ∀ p ∈ cst K, LamX.TabB base mg p.1 p.2) : Cov prog w K mg base a0 "_law_are_refused" := by
  obtain ⟨fd, FD⟩ := y.d.def_ 53 (d := d68) rfl
  obtain ⟨fw, FW⟩ := y.d.def_ 46 (d := d61) rfl
  refine .inl ⟨true, _, _, _, _, fd, ["hand", "disk"], N_law_are_refused, F_law_are_refused, ⟨rfl, rfl, FD, sc_law_are_refused, ck_law_are_refused, fun _ oc dV kV doc pm cdv ct an od osl lk X h1 h2 h3 h4 h5 h6 h7 hr => ?_, rfl, rfl, y.glo _ 76, FD.bindsN fun _ _ _ _ _ _ us hl => match us, hl with | [_, _], _ => rfl⟩⟩
  subst h2 h3 h4 h5
  obtain ⟨c, rfl⟩ : ∃ c, cdv = .ref c := by
    obtain ⟨_, _, _, _, _, _, _, cdv2, _, _, rfl, lk2, hcd, _, _⟩ := FD.ex
    obtain ⟨c, rfl⟩ := He.codeIn_ref hcd
    have z := lk2.symm.trans lk
    have z2 := congrArg (fun o : Option Obj => match o with
      | some ⟨_, _, .func fd, _⟩ => fd.code
      | _ => .none) z
    exact ⟨c, z2.symm⟩
  have hc : (He.cT X.K ("_law_are_refused", none)).1 = c := He.codeOf_eq lk rfl
  have mt : (("_law_are_refused", none) : He.Defn) ∈ tf := by unfold tf; simp
  have T := TB _ (List.mem_map.mpr ⟨("_law_are_refused", none), mt, rfl⟩)
  rw [hc] at T
  have bw : L2.Binds X.K fw ["call"] [] := FW.bindsN fun _ _ _ _ _ _ us hl => match us, hl with | [_], _ => rfl
  have hv : Vis (defScope (top 61)) "call" := by first | exact Or.inl (by decide +kernel) | exact Or.inr (Or.inl (by decide +kernel))
  have hm : ((He.cT X.K ("_law_are_refused", none)).2, lamQ "_law_are_refused") ∈ ((kk X.K X.w).at a0).tb := List.mem_map.mpr ⟨("_law_are_refused", none), mt, rfl⟩
  have hu : ∀ p ∈ ((kk X.K X.w).at a0).tb, p.1 = (He.cT X.K ("_law_are_refused", none)).2 → p.2 = lamQ "_law_are_refused" := by
    intro p hp e
    obtain ⟨q, hq, rfl⟩ := List.mem_map.mp hp
    unfold tf at hq
    have := List.mem_singleton.mp hq
    subst this
    rfl
  exact wd_of (k := (kk X.K X.w).at a0) (qual := "_law_are_refused") FW (y.glo _ 69) bw sc_word rfl hv (fun cdv => gives y a0 rfl rfl rfl (hr.mono (Nat.zero_le _)) cdv) T h6 h7 hm hu
theorem D_draw (y : Hy w K h mg) (a0 : Addr) : Cov prog w K mg base a0 "_law_draw" := by
  obtain ⟨fd, FD⟩ := y.d.def_ 30 (d := d45) rfl
  refine .inr ⟨1, drawP, fd, ["hand", "many"], ⟨rfl, draw_ok (k := (kk K w).at a0) rfl rfl y.blt FD sc_draw ck_draw, y.glo _ 53, FD.kp, FD.bindsN fun _ _ _ _ _ _ us hl => match us, hl with | [_, _], _ => rfl, fun ds s e => ?_⟩⟩
  unfold drawP at e
  split at e
  · rfl
  · exact absurd rfl e
theorem cover (y : Hy w K h mg) (a0 : Addr) (TB : ∀ p ∈ cst K, LamX.TabB base mg p.1 p.2) : ∀ f a, ((kk K w).at a0).fns f = some a → (∃ wo qual params body scope fd ps N fn, DefOk ((kk K w).at a0) Pk prog w K mg base wo f a qual params body scope fd ps N fn) ∨ ∃ l p fd ps, PrimOk ((kk K w).at a0) Pk prog w K mg base f a l p fd ps := by
  have key : ∀ f ∈ fnL, Cov prog w K mg base a0 f := by
    unfold fnL
    simp only [List.forall_mem_cons]
    exact ⟨D_draw y a0, D_is_integer y a0, D_is_between y a0, D_common_divisor y a0, D_fraction y a0, D_whole y a0, D_minus y a0, D_is_less y a0, D_is_fraction y a0, D_in_order y a0, D_check_ring y a0, D_check_point y a0, D_dot_value y a0, D_value_at y a0, D_alike_one y a0, D_apart_by y a0, D_distances y a0, D_check_points y a0, D_meet_after y a0, D_nearest y a0, D_are_walkers y a0, D_check_walkers y a0, D_raw_order y a0, D_order_of y a0, D_first_turn y a0, D_law_hand y a0, D_law_any y a0, D_law_is y a0, D_law_low y a0, D_law_add y a0, D_law_sub y a0, D_law_less y a0, D_law_rising y a0, D_law_odd y a0, D_law_disk y a0, D_law_dot_of y a0, D_law_to y a0, D_law_behind y a0, D_law_on y a0, D_law_near y a0, D_law_sorted y a0, D_law_pairs y a0, D_law_order y a0, D_law_are_apart y a0, D_law_turn y a0, D_law_drawn y a0, D_law_is_right y a0, D_law_are_refused y a0 TB, fun _ z => by cases z⟩
  intro f a e
  obtain ⟨m, rfl⟩ := mk_at e
  exact key f m
theorem law_kept (y : Hy w K h mg) (TB : ∀ p ∈ cst K, LamX.TabB base mg p.1 p.2) {fd : FuncData} (FD : FunD K "law" "law" (defArgs (top 69)) (defBody (top 69)) (defScope (top 69)) [] [] (He.ga K "law") fd) : FnOk prog w K mg base (L2.CX prog w) (66 + 1) (He.ga K "law") fd ["script"] (SpLaw (kk K w)) := by
  obtain ⟨fh, FH⟩ := y.d.def_ 29 (d := d44) rfl
  rw [law_eq] at FD
  exact law_ok (A := 211) (B := 151) (ρ0 := [.no, .v .hand, .no, .no, .no, .no]) ⟨by decide, by decide⟩ ⟨by decide, by decide⟩ (fun a => bd y a) (by show 5 ≤ 66; decide) (by decide) (fun a m _ => calls_all (bd y a) (cover y a TB) m) (hand_ok (k := kk K w) rfl rfl y.blt (by decide) FH sc_law_hand rfl ck_hand1) (y.glo _ 52) FH.kp (FH.bindsN fun _ _ _ _ _ _ us hl => match us, hl with | [_], _ => rfl)
    FD sc_law ck_law1 ck_lawR rfl (by decide) (fun i => match i with
      | 0 => .inl rfl
      | 1 => .inr ⟨rfl, rfl⟩
      | 2 => .inl rfl
      | 3 => .inl rfl
      | 4 => .inl rfl
      | 5 => .inl rfl
      | i + 6 => .inl rfl) fun h g => by
      obtain ⟨ρ, h', e⟩ := law_tail .no g
      exact ⟨ρ, h', e 0⟩
end
end H87
set_option maxHeartbeats 0
open PySem PySem.W PySem.Calls PyProof.Rows
theorem PySem.Challenge.cw_dotmaps_k87_whole_walkers_that_meet_holds : PySem.Challenge.rw_dotmaps_k87_whole_walkers_that_meet.Holds := by
  w_on; o_law
  refine HandSHeadRun.head_any (r := OpenLaw.row PySem.Challenge.rw_dotmaps_k87_whole_walkers_that_meet) (q := view (OpenLaw.row PySem.Challenge.rw_dotmaps_k87_whole_walkers_that_meet).prog [69]) (H := H87.hk) (ob := H87.ob) (M := 6000) (loose := H87.loose) (d := HandSHeadRun.topDef (OpenLaw.row PySem.Challenge.rw_dotmaps_k87_whole_walkers_that_meet).prog 69) (kwd := []) H87.ob_eq
    (by kernel_rfl) (fun s => by kernel_rfl) H87.run (by kernel_rfl) (by kernel_rfl) (by kernel_rfl) (by rfl) (by first | assumption | decide +kernel) (by decide +kernel) ⟨rfl, rfl, rfl, rfl, rfl, by decide +kernel⟩ ?hw ?hc
  case hw => w_witness2
  case hc =>
    refine LamX.walk_ofTsE (l := PySem.Challenge.rw_dotmaps_k87_whole_walkers_that_meet) (n := 63) (k := 66 + 1) (x := "script") (CX := fun w => L2.CX (PySem.Challenge.rw_dotmaps_k87_whole_walkers_that_meet).prog w) rfl (by decide) (by kernel_rfl) ⟨rfl, by decide, by decide⟩ ?F (fun _ _ _ _ _ z => by obtain ⟨_, _, _, _, _, _, _, _, _, _, _, _, z⟩ := z; exact z)
    intro w mg fa h Y G hmg0
    obtain ⟨K, KX, c⟩ := Y
    have hmg : mg ("law" : PySem.Str) = some (.ref fa) := by
      have e : (HandSHeadRun.topDef (OpenLaw.row PySem.Challenge.rw_dotmaps_k87_whole_walkers_that_meet).prog 69).name = ("law" : PySem.Str) := by kernel_rfl
      rw [← e]
      exact hmg0
    have y : H87.Hy w K h mg := ⟨KX, G, c⟩
    obtain ⟨fd, FD⟩ := y.d.def_ 54 (d := H87.d69) rfl
    have e := hmg.symm.trans (y.glo "law" 77)
    cases e
    have bA := L2.FunD.bindsA (ps := ["script"]) FD fun _ _ _ _ _ _ us hl => match us, hl with | [_], _ => rfl
    refine ⟨K, KX, fd, H87.cst K, Ev.SpLaw (H87.kk K w), fun p hp => ?_, fun p hp => ?_, fun p hp => ?_, fun s u => bA s [u] rfl, fun H a ns hl _ ht hS => ⟨a, ns, rfl, hS, hl, fun r hr => ?_, fun _ => rfl⟩, fun base KB GB TB => ?_⟩
    · obtain ⟨q, hq, rfl⟩ := List.mem_map.mp hp
      exact c.empty q hq
    · obtain ⟨q, hq, rfl⟩ := List.mem_map.mp hp
      exact c.out q hq
    · obtain ⟨q, hq, rfl⟩ := List.mem_map.mp hp
      exact codeHd_of_K KX (c.hd q hq)
    · obtain ⟨q, hq, rfl⟩ := List.mem_map.mp hr
      exact LamX.TabS.nil (ht _ (List.mem_map.mpr ⟨q, hq, rfl⟩))
    · exact H87.law_kept y TB FD
