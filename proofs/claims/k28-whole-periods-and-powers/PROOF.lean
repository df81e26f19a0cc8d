import PyProof.Rows.All
import Wide.All
import OpenK.AllK
import Wide.FinOn
import PySem.Challenge.RW_wordwright_k28_whole_periods_and_powers
import HandS.ForMost
import HandS.IsInst
import HandS.Style
import HandS.Flow
import HandS.Conv
import KE.DataIsa
import KE.SortData
import KE.SortKeyHeap
import KE.DataCmp
import PyProof.P3In
import HandS.TupAny
import PyProof.Rows.StrRev
import HandS.SetFor
import HandS.RaiseMore
import HandS.StrMore
import HandS.Defaults
import HandS.More
import HandS.HeadEnd
import HandS.HeadHook1
import HandS.HeadHook2
import KE.KStateDown
import HandS.Head0
import HandS.Head1
import HandS.Head2
import PyProof.Rows.StrIntSpec
set_option Elab.async false
set_option linter.all false
set_option maxRecDepth 100000
namespace Pu
open PySem PySem.Spec PyProof.Rows L2

/-! ### plain data and the evaluator -/
inductive D where
  | non | bl (b : Bool) | int (i : Int) | str (l : List Nat) | lst (l : List D) | tup (l : List D)
abbrev mkS (l : List Nat) : Str := ⟨l.toArray⟩
mutual
def toP : D → PyData
  | .non => .none
  | .bl b => .bool b
  | .int i => .int i
  | .str l => .str ⟨l.toArray⟩
  | .lst l => .list (toPs l)
  | .tup l => .tuple (toPs l)
def toPs : List D → List PyData
  | [] => []
  | x :: xs => toP x :: toPs xs
end
theorem toPs_map : ∀ l, toPs l = l.map toP
  | [] => rfl
  | x :: xs => by rw [toPs, List.map_cons, toPs_map xs]
mutual
/-- == -/
def eqv : D → D → Bool
  | .non, .non => true
  | .bl a, .bl b => a == b
  | .bl a, .int j => (if a then 1 else 0) == j
  | .int i, .bl b => i == (if b then 1 else 0)
  | .int i, .int j => i == j
  | .str x, .str y => x == y
  | .lst x, .lst y => eqvs x y
  | .tup x, .tup y => eqvs x y
  | _, _ => false
def eqvs : List D → List D → Bool
  | [], [] => true
  | x :: xs, y :: ys => eqv x y && eqvs xs ys
  | _, _ => false
end
theorem str_beq (x y : List Nat) : ((⟨x.toArray⟩ : Str) == ⟨y.toArray⟩) = (x == y) := by
  rw [Bool.eq_iff_iff]; simp
mutual
theorem eqv_toP : ∀ x y : D, PyData.eqv (toP x) (toP y) = eqv x y
  | .non, y => by cases y <;> simp [toP, PyData.eqv, eqv]
  | .bl a, y => by cases y <;> simp [toP, PyData.eqv, eqv]
  | .int a, y => by cases y <;> simp [toP, PyData.eqv, eqv]
  | .str a, y => by cases y <;> simp [toP, PyData.eqv, eqv, str_beq]
  | .lst a, y => by cases y <;> simp [toP, PyData.eqv, eqv, eqvs_toP]
  | .tup a, y => by cases y <;> simp [toP, PyData.eqv, eqv, eqvs_toP]
theorem eqvs_toP : ∀ x y : List D, PyData.eqvAll (toPs x) (toPs y) = eqvs x y
  | [], [] => by simp [toPs, PyData.eqvAll, eqvs]
  | [], _ :: _ => by simp [toPs, PyData.eqvAll, eqvs]
  | _ :: _, [] => by simp [toPs, PyData.eqvAll, eqvs]
  | x :: xs, y :: ys => by simp [toPs, PyData.eqvAll, eqvs, eqv_toP x y, eqvs_toP xs ys]
end
mutual
/-- no sign is beyond the last one -/
def chD : D → Bool
  | .str l => l.all (· < 0x110000)
  | .lst l => chDs l
  | .tup l => chDs l
  | _ => true
def chDs : List D → Bool
  | [] => true
  | x :: xs => chD x && chDs xs
end
mutual
theorem chD_ok : ∀ x : D, (toP x).canLay0 = chD x
  | .non => rfl
  | .bl _ => rfl
  | .int _ => rfl
  | .str l => by simp [toP, PyData.canLay0, chD, PyData.strOk]
  | .lst l => by simp [toP, PyData.canLay0, chD, chDs_ok l]
  | .tup l => by simp [toP, PyData.canLay0, chD, chDs_ok l]
theorem chDs_ok : ∀ x : List D, PyData.canLayAll0 (toPs x) = chDs x
  | [] => rfl
  | x :: xs => by simp [toPs, PyData.canLayAll0, chDs, chD_ok x, chDs_ok xs]
end
mutual
def depD : D → Nat
  | .lst l => depDs l + 1
  | .tup l => depDs l + 1
  | _ => 0
def depDs : List D → Nat
  | [] => 0
  | x :: xs => max (depD x) (depDs xs)
end
mutual
theorem depD_ok : ∀ x : D, (toP x).depth = depD x
  | .non => rfl
  | .bl _ => rfl
  | .int _ => rfl
  | .str l => rfl
  | .lst l => by simp [toP, PyData.depth, depD, depDs_ok l]
  | .tup l => by simp [toP, PyData.depth, depD, depDs_ok l]
theorem depDs_ok : ∀ x : List D, PyData.depthAll (toPs x) = depDs x
  | [] => rfl
  | x :: xs => by simp [toPs, PyData.depthAll, depDs, depD_ok x, depDs_ok xs]
end
/-- the drawn numbers and the place: the state that the law's draws change -/
structure PoolS where
  rows : List Int
  at_ : Nat
abbrev Pool := Option PoolS
abbrev Fnc := List D → Pool → Option (D × Pool)

def gd {α : Type} (c : Prop) [Decidable c] (x : α) : Option α := if c then some x else none
theorem gd_some {α : Type} {c : Prop} [Decidable c] {x y : α} (h : gd c x = some y) : c ∧ x = y := by
  unfold gd at h
  split at h
  · exact ⟨by assumption, Option.some.inj h⟩
  · cases h
theorem gd_pos {α : Type} {c : Prop} [Decidable c] {x : α} (h : c) : gd c x = some x := if_pos h

/-- the items of a slice -/
def cutL {α : Type} (xs : List α) (lo hi : Option Int) : List α := (xs.drop (HT.sIx xs.length 0 lo)).take (HT.sIx xs.length xs.length hi - HT.sIx xs.length 0 lo)

def opBin : Operator → D → D → Option D
  | .Add, .int a, .int b => some (.int (a + b))
  | .Add, .str a, .str b => gd (a.length + b.length ≤ sizeLine) (.str (a ++ b))
  | .Add, .lst a, .lst b => gd (a.length + b.length ≤ sizeLine) (.lst (a ++ b))
  | .Add, .tup a, .tup b => gd (a.length + b.length ≤ sizeLine) (.tup (a ++ b))
  | .Sub, .int a, .int b => some (.int (a - b))
  | .Mult, .int a, .int b => gd ((-(2 ^ 64) < a ∧ a < 2 ^ 64) ∨ (-(2 ^ 64) < b ∧ b < 2 ^ 64)) (.int (a * b))
  | .Mult, .str a, .int b => gd ((-(2 ^ 62) ≤ b ∧ b < 2 ^ 62) ∧ a.length * b.toNat ≤ sizeLine) (.str (List.replicate b.toNat a).flatten)
  | .Mult, .lst a, .int b => gd ((-(2 ^ 62) ≤ b ∧ b < 2 ^ 62) ∧ a.length * b.toNat ≤ sizeLine) (.lst (List.replicate b.toNat a).flatten)
  | .FloorDiv, .int a, .int b => gd (0 < b ∧ b < 1073741824) (.int (a / b))
  | .Mod, .int a, .int b => gd (0 < b) (.int (a % b))
  | .Pow, .int a, .int b => gd (0 ≤ b ∧ b ≤ 1000000 ∧ a.natAbs < 2 ^ 64) (.int (a ^ b.toNat))
  | _, _, _ => none

/-- scalars that == tells apart as data does -/
def scalD : D → D → Bool
  | .non, .non => true | .non, .int _ => true | .int _, .non => true | .non, .bl _ => true | .bl _, .non => true | .non, .str _ => true | .str _, .non => true
  | .int _, .int _ => true | .bl _, .bl _ => true | .str _, .str _ => true
  | .int _, .str _ => true | .str _, .int _ => true | .bl _, .str _ => true | .str _, .bl _ => true
  | _, _ => false
def shp (d : D) : Bool := chD d && decide (depD d ≤ 64)
def eqD (a b : D) : Option Bool := if scalD a b then some (eqv a b) else if shp a && shp b then some (eqv a b) else none
def notNone : D → Bool
  | .non => false
  | _ => true
def ltD (a b : D) : Option Bool := match a, b with
  | .int a, .int b => some (decide (a < b))
  | .str a, .str b => some (decide (a < b))
  | a, b => gd ((PySem.W.alike (toP a) (toP b) && (notNone a && decide (depD a ≤ 64))) = true) (PySem.W.dataLt (toP a) (toP b))
def flatD : D → Bool
  | .lst _ => false
  | .tup _ => false
  | _ => true
def inL (x : D) (ys : List D) : Option Bool := gd (((flatD x && ys.all flatD) || (shp x && (chDs ys && decide (depDs ys ≤ 32)))) = true) (ys.any fun y => eqv y x)
def inD (x y : D) : Option Bool := match y with
  | .str b => (match x with
    | .str [c] => some (decide (c ∈ b))
    | .str a => some (!(Builtin.Str.occurrences (mkS b) (mkS a) 0 (mkS b).length 1).isEmpty)
    | _ => none)
  | .lst ys => inL x ys
  | .tup ys => inL x ys
  | _ => none
def opCmp : CmpOp → D → D → Option Bool
  | .Eq, a, b => eqD a b
  | .NotEq, a, b => (eqD a b).map (!·)
  | .Lt, a, b => ltD a b
  | .Gt, a, b => ltD b a
  | .LtE, a, b => (ltD b a).map (!·)
  | .GtE, a, b => (ltD a b).map (!·)
  | .In, a, b => inD a b
  | .NotIn, a, b => (inD a b).map (!·)
  | _, _, _ => none
/-- a is k, k written: None, True, False -/
def isKD (a : D) (k : D) : Option Bool := match k with
  | .non => (match a with
    | .non => some true
    | _ => some false)
  | .bl b => (match a with
    | .bl c => some (decide (c = b))
    | _ => none)
  | _ => none
/-- truth -/
def truD : D → Option Bool
  | .non => some false
  | .bl b => some b
  | .int i => some (i != 0)
  | .str x => gd (x.length ≤ sizeLine) (!x.isEmpty)
  | .lst xs => some (!xs.isEmpty)
  | .tup xs => some (!xs.isEmpty)
def opSub : D → D → Option D
  | .lst xs, .int i => atI xs i
  | .tup xs, .int i => atI xs i
  | .str x, .int i => if x.length ≤ sizeLine then (atI x i).map fun c => .str [c] else none
  | _, _ => none
def opSl : D → Option Int → Option Int → Option D
  | .lst xs, lo, hi => some (.lst (cutL xs lo hi))
  | .tup xs, lo, hi => some (.tup (cutL xs lo hi))
  | .str x, lo, hi => gd (x.length ≤ sizeLine) (.str (cutL x lo hi))
  | _, _, _ => none
def opRev : D → Option D
  | .lst xs => some (.lst xs.reverse)
  | .str x => gd (x.length ≤ sizeLine) (.str x.reverse)
  | .tup xs => some (.tup xs.reverse)
  | _ => none
def intsOf : List D → Option (List Int)
  | [] => some []
  | .int i :: r => (intsOf r).map (i :: ·)
  | _ => none
def bolsOf : List D → Option (List Bool)
  | [] => some []
  | .bl i :: r => (bolsOf r).map (i :: ·)
  | _ => none
def strsOf : List D → Option (List (List Nat))
  | [] => some []
  | .str i :: r => (strsOf r).map (i :: ·)
  | _ => none
def maxI : List Int → Option Int
  | [] => none
  | x :: r => some (r.foldl (fun a b => if b > a then b else a) x)
def minI : List Int → Option Int
  | [] => none
  | x :: r => some (r.foldl (fun a b => if b < a then b else a) x)
/-- built-in functions -/
inductive Bi where
  | len | sum | max | min | all | any | abs | sorted | tuple | list | int | str | bool
  deriving DecidableEq
def Bi.name : Bi → Str
  | .len => "len" | .sum => "sum" | .max => "max" | .min => "min" | .all => "all" | .any => "any" | .abs => "abs" | .sorted => "sorted" | .tuple => "tuple" | .list => "list" | .int => "int" | .str => "str" | .bool => "bool"
def allAlike (xs : List D) : Bool := xs.all fun x => xs.all fun y => PySem.W.alike (toP x) (toP y)
def sortable (xs : List D) : Bool := (xs.all fun x => match x with | .tup (_ :: _) => true | _ => false) || xs.all fun x => match x with | .non => false | .tup _ => false | _ => true
def sortD (xs : List D) : List D := xs.mergeSort (PySem.W.dataLe false toP)
/-- a number's text -/
def decL (i : Int) : List Nat := (Str.ofString (toString i)).cps.toList
def opBi : Bi → List D → Option D
  | .len, [.str x] => gd (x.length ≤ sizeLine) (.int x.length)
  | .len, [.lst xs] => some (.int xs.length)
  | .len, [.tup xs] => some (.int xs.length)
  | .sum, [.lst xs] => (intsOf xs).map fun ns => .int ns.sum
  | .max, [.lst xs] => (intsOf xs).bind fun ns => (maxI ns).map .int
  | .min, [.lst xs] => (intsOf xs).bind fun ns => (minI ns).map .int
  | .max, [.int a, .int b] => some (.int (if b > a then b else a))
  | .min, [.int a, .int b] => some (.int (if b < a then b else a))
  | .all, [.lst xs] => (bolsOf xs).map fun bs => .bl (bs.all id)
  | .any, [.lst xs] => (bolsOf xs).map fun bs => .bl (bs.any id)
  | .abs, [.int i] => some (.int (if i < 0 then -i else i))
  | .sorted, [.lst xs] => gd ((allAlike xs && (sortable xs && decide (depDs xs ≤ 32))) = true) (.lst (sortD xs))
  | .tuple, [.lst xs] => some (.tup xs)
  | .tuple, [.tup xs] => some (.tup xs)
  | .list, [.lst xs] => some (.lst xs)
  | .list, [.tup xs] => some (.lst xs)
  | .int, [.int i] => some (.int i)
  | .int, [.bl b] => some (.int (if b then 1 else 0))
  | .bool, [.bl b] => some (.bl b)
  | .str, [.int i] => gd (i.natAbs.log2 < 1920) (.str (decL i))
  | .str, [.str x] => some (.str x)
  | _, _ => none
/-- each item once -/
def ddL {α : Type} [BEq α] : List α → List α
  | [] => []
  | x :: xs => if xs.contains x then ddL xs else x :: ddL xs
/-- sorted(set(..)) -/
def ssetL (xs : List D) : Option (List D) := match strsOf xs with
  | some zs => gd (zs.length < 4000) (sortD ((ddL zs).map .str))
  | none => (intsOf xs).bind fun ns => gd (ns.length < 4000) (sortD ((ddL ns).map .int))
def ssetD : D → Option (List D)
  | .lst xs => ssetL xs
  | .str x => ssetL (x.map fun c => .str [c])
  | _ => none
/-- built-in methods -/
inductive Me where
  | join | index | count | find | startswith | endswith
  deriving DecidableEq
def Me.name : Me → Str
  | .join => "join" | .index => "index" | .count => "count" | .find => "find" | .startswith => "startswith" | .endswith => "endswith"
def opMe : Me → D → List D → Option D
  | .join, .str x, [.lst ys] => (strsOf ys).bind fun zs => gd ((zs.map fun z => z.length).sum + zs.length * x.length ≤ 16777216) (.str (TL.joinL x zs))
  | .startswith, .str x, [.str y] => some (.bl (Txt.startswith (mkS x) (mkS y)))
  | .endswith, .str x, [.str y] => some (.bl (Txt.endswith (mkS x) (mkS y)))
  | .find, .str x, [.str y] => some (.int (Txt.find (mkS x) (mkS y)))
  | .find, .str x, [.str y, .int i] => some (.int (Txt.find3 (mkS x) (mkS y) i))
  | .count, .str x, [.str y] => some (.int (Txt.count (mkS x) (mkS y)))
  | .index, .lst xs, [y] => (xs.findIdx? fun x => eqv x y).bind fun j => gd ((flatD y && xs.all flatD) = true) (.int (j : Int))
  | _, _, _ => none
/-- isinstance -/
inductive Ty where
  | int | bool | str | tuple | list | dict
  deriving DecidableEq
def Ty.name : Ty → String
  | .int => "int" | .bool => "bool" | .str => "str" | .tuple => "tuple" | .list => "list" | .dict => "dict"
def isTy : Ty → D → Bool
  | .int, .int _ => true
  | .int, .bl _ => true
  | .bool, .bl _ => true
  | .str, .str _ => true
  | .tuple, .tup _ => true
  | .list, .lst _ => true
  | _, _ => false

/-- what a clause stores to: a name, a tuple of names -/
inductive Tgt where
  | nm (i : Nat)
  | tp (is : List Nat)
def Tgt.ix : Tgt → List Nat
  | .nm i => [i]
  | .tp is => is
mutual
inductive Ex where
  | var (i : Nat)
  | con (d : D)
  | glob (x : Str) (d : D)
  | bin (op : Operator) (a b : Ex)
  | neg (a : Ex)
  | cmp (op : CmpOp) (a b : Ex)
  | chn (o1 o2 : CmpOp) (a b c : Ex)
  | isK (neg : Bool) (a : Ex) (k : D)
  | bools (isAnd : Bool) (es : Exs)
  | notE (a : Ex)
  | ite (c a b : Ex)
  | tup (es : Exs)
  | lst (es : Exs)
  | sub (a i : Ex)
  | sl (a : Ex) (lo hi : OEx)
  | rev (a : Ex)
  | call (f : Str) (n : Nat) (F : Fnc) (es : Exs)
  | callP (f : Str) (n : Nat) (F : Fnc) (i : Nat) (es : Exs)
  | bi (f : Bi) (es : Exs)
  | me (m : Me) (a : Ex) (es : Exs)
  | isi (a : Ex) (t : Ty)
  | lc (i : Nat) (it : Wk) (cd : OEx) (el : Ex)
  | lcP (t : Tgt) (it : Wk) (cd : OEx) (el : Ex)
  | lc2 (t : Tgt) (it : Wk) (t2 : Tgt) (it2 : Wk) (cd : OEx) (el : Ex)
  | lrng (es : Exs)
  | sset (a : Ex)
inductive Wk where
  | rng (es : Exs)
  | ex (e : Ex)
inductive Exs where
  | nil
  | cons (e : Ex) (es : Exs)
inductive OEx where
  | no
  | yes (e : Ex)
end

inductive Slot where
  | none
  | val (d : D)
  | own (l : List D)
  | pool
def Slot.read : Slot → Option D
  | .none => Option.none
  | .val d => some d
  | .own l => some (.lst l)
  | .pool => Option.none
abbrev Env := List Slot
def look (env : Env) (i : Nat) : Option D := (env[i]?).bind Slot.read
abbrev RsO := Option (D × Pool)
/-- the numbers of a range -/
def rngL : List D → Option (List D)
  | [.int n] => gd (-(2 ^ 62) ≤ n ∧ n < 2 ^ 62) ((List.range n.toNat).map fun k => .int (k : Nat))
  | [.int a, .int b] => gd ((-(2 ^ 62) ≤ a ∧ a < 2 ^ 62) ∧ -(2 ^ 62) ≤ b ∧ b < 2 ^ 62) ((List.range (b - a).toNat).map fun k => .int (a + (k : Nat)))
  | [.int a, .int b, .int (-1)] => gd ((-(2 ^ 62) ≤ a ∧ a < 2 ^ 62) ∧ -(2 ^ 62) ≤ b ∧ b < 2 ^ 62) ((List.range (a - b).toNat).map fun k => .int (a - (k : Nat)))
  | [.int a, .int b, .int c] => gd (0 < c ∧ c < 1000000 ∧ -1000000 < a ∧ a < 1000000 ∧ -1000000 < b ∧ b < 1000000) ((List.range (Builtin.Range.rangeSize a b c).toNat).map fun k => .int (a + (k : Nat) * c))
  | _ => none
def setAll : List Nat → List D → Env → Env
  | i :: is, d :: ds, env => setAll is ds (env.set i (.val d))
  | _, _, env => env
def putT : Tgt → D → Env → Option Env
  | .nm i, d, env => some (env.set i (.val d))
  | .tp is, .tup ds, env => if ds.length = is.length then some (setAll is ds env) else none
  | .tp _, _, _ => none
def wipeE : List Nat → Env → Env
  | [], env => env
  | i :: is, env => (wipeE is env).set i .none
/-- what a loop walks -/
def walkL : D → Option (List D)
  | .lst xs => some xs
  | .tup xs => some xs
  | .str x => some (x.map fun c => .str [c])
  | _ => none
/-- a comprehension's loop -/
def lcGo (turn : D → Pool → Option (Option D × Pool)) : List D → Pool → Option (List D × Pool)
  | [], pl => some ([], pl)
  | x :: xs, pl => (turn x pl).bind fun r => (lcGo turn xs r.2).map fun q => (r.1.toList ++ q.1, q.2)
/-- .. that lays lists end to end -/
def lcAll (turn : D → Pool → Option (List D × Pool)) : List D → Pool → Option (List D × Pool)
  | [], pl => some ([], pl)
  | x :: xs, pl => (turn x pl).bind fun r => (lcAll turn xs r.2).map fun q => (r.1 ++ q.1, q.2)
mutual
def evE : Ex → Env → Pool → RsO
  | .var i, env, pl => (look env i).map (·, pl)
  | .con d, _, pl => some (d, pl)
  | .glob _ d, _, pl => some (d, pl)
  | .bin op a b, env, pl => (evE a env pl).bind fun r => (evE b env r.2).bind fun q => (opBin op r.1 q.1).map (·, q.2)
  | .neg a, env, pl => (evE a env pl).bind fun r => (match r.1 with | .int i => some (.int (-i), r.2) | _ => none)
  | .cmp op a b, env, pl => (evE a env pl).bind fun r => (evE b env r.2).bind fun q => (opCmp op r.1 q.1).map fun k => (.bl k, q.2)
  | .chn o1 o2 a b c, env, pl => (evE a env pl).bind fun r => (evE b env r.2).bind fun q => (opCmp o1 r.1 q.1).bind fun k => if k then (evE c env q.2).bind fun u => (opCmp o2 q.1 u.1).map fun k => (.bl k, u.2) else some (.bl false, q.2)
  | .isK n a k, env, pl => (evE a env pl).bind fun r => (isKD r.1 k).map fun b => (.bl (if n then !b else b), r.2)
  | .bools isAnd es, env, pl => evB isAnd es env pl
  | .notE a, env, pl => (evE a env pl).bind fun r => (truD r.1).map fun b => (.bl (!b), r.2)
  | .ite c a b, env, pl => (evE c env pl).bind fun r => (truD r.1).bind fun k => if k then evE a env r.2 else evE b env r.2
  | .tup es, env, pl => (evEs es env pl).bind fun r => gd (r.1.length ≤ sizeLine) (.tup r.1, r.2)
  | .lst es, env, pl => (evEs es env pl).bind fun r => gd (r.1.length ≤ sizeLine) (.lst r.1, r.2)
  | .sub a i, env, pl => (evE a env pl).bind fun r => (evE i env r.2).bind fun q => (opSub r.1 q.1).map (·, q.2)
  | .sl a lo hi, env, pl => (evE a env pl).bind fun r => (evO lo env r.2).bind fun q => (evO hi env q.2).bind fun u => (opSl r.1 q.1 u.1).map (·, u.2)
  | .rev a, env, pl => (evE a env pl).bind fun r => (opRev r.1).map (·, r.2)
  | .call _ _ F es, env, pl => (evEs es env pl).bind fun r => F r.1 r.2
  | .callP _ _ F i es, env, pl => (match env[i]? with | some .pool => (evEs es env pl).bind fun r => F r.1 r.2 | _ => none)
  | .bi f es, env, pl => (evEs es env pl).bind fun r => (opBi f r.1).map (·, r.2)
  | .me m a es, env, pl => (evE a env pl).bind fun r => (evEs es env r.2).bind fun q => (opMe m r.1 q.1).map (·, q.2)
  | .isi a t, env, pl => (evE a env pl).bind fun r => some (.bl (isTy t r.1), r.2)
  | .lc i it cd el, env, pl => (evW it env pl).bind fun r =>
      (lcGo (fun x pl => match cd with
        | .no => (evE el (env.set i (.val x)) pl).map fun q => (some q.1, q.2)
        | .yes c => (evE c (env.set i (.val x)) pl).bind fun t => (truD t.1).bind fun k => if k then (evE el (env.set i (.val x)) t.2).map fun q => (some q.1, q.2) else some (none, t.2)) r.1 r.2).bind fun q =>
      gd (q.1.length ≤ sizeLine) (.lst q.1, q.2)
  | .lcP t it cd el, env, pl => (evW it env pl).bind fun r =>
      (lcGo (fun x pl => (putT t x env).bind fun env1 => match cd with
        | .no => (evE el env1 pl).map fun q => (some q.1, q.2)
        | .yes c => (evE c env1 pl).bind fun t => (truD t.1).bind fun k => if k then (evE el env1 t.2).map fun q => (some q.1, q.2) else some (none, t.2)) r.1 r.2).bind fun q =>
      gd (q.1.length ≤ sizeLine) (.lst q.1, q.2)
  | .lc2 t it t2 it2 cd el, env, pl => (evW it env pl).bind fun r =>
      (lcAll (fun x pl => (putT t x (wipeE (t.ix ++ t2.ix) env)).bind fun env1 => (evW it2 env1 pl).bind fun r2 =>
        lcGo (fun x pl => (putT t2 x env1).bind fun env2 => match cd with
          | .no => (evE el env2 pl).map fun q => (some q.1, q.2)
          | .yes c => (evE c env2 pl).bind fun t => (truD t.1).bind fun k => if k then (evE el env2 t.2).map fun q => (some q.1, q.2) else some (none, t.2)) r2.1 r2.2) r.1 r.2).bind fun q =>
      gd (q.1.length ≤ sizeLine) (.lst q.1, q.2)
  | .lrng es, env, pl => (evEs es env pl).bind fun r => (rngL r.1).bind fun l => gd (l.length ≤ sizeLine) (.lst l, r.2)
  | .sset a, env, pl => (evE a env pl).bind fun r => (ssetD r.1).map fun l => (.lst l, r.2)
/-- what is walked -/
def evW : Wk → Env → Pool → Option (List D × Pool)
  | .rng es, env, pl => (evEs es env pl).bind fun r => (rngL r.1).map (·, r.2)
  | .ex e, env, pl => (evE e env pl).bind fun r => (walkL r.1).map (·, r.2)
def evEs : Exs → Env → Pool → Option (List D × Pool)
  | .nil, _, pl => some ([], pl)
  | .cons e es, env, pl => (evE e env pl).bind fun r => (evEs es env r.2).map fun q => (r.1 :: q.1, q.2)
def evB : Bool → Exs → Env → Pool → RsO
  | _, .nil, _, _ => none
  | isAnd, .cons e es, env, pl => match es with
    | .nil => evE e env pl
    | .cons e2 es2 => (evE e env pl).bind fun r => (truD r.1).bind fun k => if k = isAnd then evB isAnd (.cons e2 es2) env r.2 else some r
def evO : OEx → Env → Pool → Option (Option Int × Pool)
  | .no, _, pl => some (none, pl)
  | .yes e, env, pl => (evE e env pl).bind fun r => (match r.1 with | .int i => some (some i, r.2) | _ => none)
end

/-! ### the names that are read -/
mutual
def varsE : Ex → List Nat
  | .var i => [i]
  | .con _ => []
  | .glob _ _ => []
  | .bin _ a b => varsE a ++ varsE b
  | .neg a => varsE a
  | .cmp _ a b => varsE a ++ varsE b
  | .chn _ _ a b c => varsE a ++ (varsE b ++ varsE c)
  | .isK _ a _ => varsE a
  | .bools _ es => varsEs es
  | .notE a => varsE a
  | .ite c a b => varsE c ++ (varsE a ++ varsE b)
  | .tup es => varsEs es
  | .lst es => varsEs es
  | .sub a i => varsE a ++ varsE i
  | .sl a lo hi => varsE a ++ (varsO lo ++ varsO hi)
  | .rev a => varsE a
  | .call _ _ _ es => varsEs es
  | .callP _ _ _ i es => i :: varsEs es
  | .bi _ es => varsEs es
  | .me _ a es => varsE a ++ varsEs es
  | .isi a _ => varsE a
  | .lc _ it cd el => varsW it ++ (varsO cd ++ varsE el)
  | .lcP _ it cd el => varsW it ++ (varsO cd ++ varsE el)
  | .lc2 _ it _ it2 cd el => varsW it ++ (varsW it2 ++ (varsO cd ++ varsE el))
  | .lrng es => varsEs es
  | .sset a => varsE a
def varsW : Wk → List Nat
  | .rng es => varsEs es
  | .ex e => varsE e
def varsEs : Exs → List Nat
  | .nil => []
  | .cons e es => varsE e ++ varsEs es
def varsO : OEx → List Nat
  | .no => []
  | .yes e => varsE e
end
/-! ### what an expression needs of the text around -/
inductive Need where
  | fn (f : Str) (n : Nat) (F : Fnc) (p : Bool)
  | gl (x : Str) (d : D)
mutual
def needE : Ex → List Need
  | .var _ => []
  | .con _ => []
  | .glob x d => [.gl x d]
  | .bin _ a b => needE a ++ needE b
  | .neg a => needE a
  | .cmp _ a b => needE a ++ needE b
  | .chn _ _ a b c => needE a ++ (needE b ++ needE c)
  | .isK _ a _ => needE a
  | .bools _ es => needEs es
  | .notE a => needE a
  | .ite c a b => needE c ++ (needE a ++ needE b)
  | .tup es => needEs es
  | .lst es => needEs es
  | .sub a i => needE a ++ needE i
  | .sl a lo hi => needE a ++ (needO lo ++ needO hi)
  | .rev a => needE a
  | .call f n F es => .fn f n F false :: needEs es
  | .callP f n F _ es => .fn f n F true :: needEs es
  | .bi _ es => needEs es
  | .me _ a es => needE a ++ needEs es
  | .isi a _ => needE a
  | .lc _ it cd el => needW it ++ (needO cd ++ needE el)
  | .lcP _ it cd el => needW it ++ (needO cd ++ needE el)
  | .lc2 _ it _ it2 cd el => needW it ++ (needW it2 ++ (needO cd ++ needE el))
  | .lrng es => needEs es
  | .sset a => needE a
def needW : Wk → List Need
  | .rng es => needEs es
  | .ex e => needE e
def needEs : Exs → List Need
  | .nil => []
  | .cons e es => needE e ++ needEs es
def needO : OEx → List Need
  | .no => []
  | .yes e => needE e
end
/-! ### the text is this expression -/
def visB (sc : Scope) (x : Str) : Bool := (match sc.names.lookup x with | some .local => true | some .cell => true | some .free => true | _ => false) && (!(x == ("__debug__" : Str)) && !(x == ("__classdict__" : Str)))
def glB (sc : Scope) (x : Str) : Bool := (match sc.names.lookup x with | some .globalImplicit => true | _ => false) && (!(x == ("__debug__" : Str)) && !(x == ("__name__" : Str)))
def okC : D → Const → Bool
  | .non, .none => true
  | .bl b, .bool c => b == c
  | .int i, .int j => i == j
  | .str l, .str x => decide (x = ⟨l.toArray⟩)
  | _, _ => false
def exLen : Exs → Nat
  | .nil => 0
  | .cons _ es => exLen es + 1
/-- a clause's target: its names, each the block's own -/
def okX (N : List Str) (rs scope : Scope) (i : Nat) (x : Str) : Bool := decide (N[i]? = some x) && (match rs.names.lookup x, scope.names.lookup x with | some .local, _ => true | some .cell, some .cell => true | _, _ => false)
def okXs (N : List Str) (rs scope : Scope) : List Nat → List Expr → Bool
  | [], [] => true
  | i :: is, .Name x _ :: l => okX N rs scope i x && okXs N rs scope is l
  | _, _ => false
def okT (N : List Str) (rs scope : Scope) : Tgt → Expr → Bool
  | .nm i, .Name x _ => okX N rs scope i x
  | .tp is, .Tuple l _ _ => okXs N rs scope is l
  | _, _ => false
def nameE : Expr → Option Str
  | .Name x _ => some x
  | _ => none
/-- the names of a target, with their places -/
def ownT : Tgt → Expr → List (Str × Nat)
  | .nm i, .Name x _ => [(x, i)]
  | .tp is, .Tuple l _ _ => (l.filterMap nameE).zip is
  | _, _ => []
mutual
def okE (N : List Str) : Scope → Ex → Expr → Bool
  | sc, .var i, .Name x _ => decide (N[i]? = some x) && visB sc x
  | _, .con d, .Constant c _ _ => okC d c
  | sc, .glob x _, .Name y _ => decide (x = y) && glB sc y
  | sc, .bin op a b, .BinOp l o r _ => decide (o = op) && (okE N sc a l && okE N sc b r)
  | sc, .neg a, .UnaryOp .USub x _ => okE N sc a x
  | sc, .cmp op a b, .Compare l [o] [r] _ => decide (o = op) && (okE N sc a l && okE N sc b r)
  | sc, .chn o1 o2 a b c, .Compare l [p1, p2] [r, t] _ => (decide (p1 = o1) && decide (p2 = o2)) && (okE N sc a l && (okE N sc b r && okE N sc c t))
  | sc, .isK n a k, .Compare l [o] [.Constant c _ _] _ => decide (o = if n then .IsNot else .Is) && (okC k c && okE N sc a l)
  | sc, .bools isAnd es, .BoolOp o l _ => decide (o = if isAnd then .And else .Or) && okEs N sc es l
  | sc, .notE a, .UnaryOp .Not x _ => okE N sc a x
  | sc, .ite c a b, .IfExp x y z _ => okE N sc c x && (okE N sc a y && okE N sc b z)
  | sc, .tup es, .Tuple l _ _ => okEs N sc es l
  | sc, .lst es, .List l _ => okEs N sc es l
  | sc, .sub a i, .Subscript x y _ => okE N sc a x && (okE N sc i y && (match y with | .Slice _ _ _ _ => false | _ => true))
  | sc, .sl a lo hi, .Subscript x (.Slice l h none _) _ => okE N sc a x && (okO N sc lo l && okO N sc hi h)
  | sc, .rev a, .Subscript x (.Slice none none (some (.UnaryOp .USub (.Constant (.int 1) _ _) _)) _) _ => okE N sc a x
  | sc, .call f n _ es, .Call (.Name x _) l [] _ => (decide (x = f) && glB sc x) && (decide (exLen es = n ∧ 0 < n) && okEs N sc es l)
  | sc, .callP f n _ i es, .Call (.Name x _) (.Name y _ :: l) [] _ => (decide (x = f) && glB sc x) && ((decide (N[i]? = some y) && visB sc y) && (decide (exLen es = n) && okEs N sc es l))
  | sc, .bi f es, .Call (.Name x _) l [] _ => (decide (x = f.name) && glB sc x) && (decide (0 < exLen es) && okEs N sc es l)
  | sc, .me m a es, .Call (.Attribute o x p) l [] q => (decide (x = m.name) && decide (p.endLine = q.line)) && (okE N sc a o && (decide (0 < exLen es ∧ exLen es < 20) && okEs N sc es l))
  | sc, .isi a t, .Call (.Name x _) [l, .Name y _] [] _ => (decide (x = "isinstance") && (glB sc x && (decide (y = (t.name : Str)) && glB sc y))) && okE N sc a l
  | sc, .lc i it cd el, .ListComp e [⟨.Name x _, w, ifs, 0⟩] scope _ => (decide (N[i]? = some x) && blkC N sc scope [(x, i)]) && ((okW N sc it w && ((match cd, ifs with
      | .no, [] => true
      | .yes c, [f] => okE N (relS scope sc) c f
      | _, _ => false) && okE N (relS scope sc) el e)) && (match (relS scope sc).names.lookup x, scope.names.lookup x with | some .local, _ => true | some .cell, some .cell => true | _, _ => false))
  | sc, .lcP t it cd el, .ListComp e [⟨tg, w, ifs, 0⟩] scope _ => (okT N (relS scope sc) scope t tg && blkC N sc scope (ownT t tg)) && (okW N sc it w && ((match cd, ifs with
      | .no, [] => true
      | .yes c, [f] => okE N (relS scope sc) c f
      | _, _ => false) && okE N (relS scope sc) el e))
  | sc, .lc2 t it t2 it2 cd el, .ListComp e [⟨tg, w, [], 0⟩, ⟨tg2, w2, ifs, 0⟩] scope _ => ((okT N (relS scope sc) scope t tg && okT N (relS scope sc) scope t2 tg2) && blkC N sc scope (ownT t tg ++ ownT t2 tg2)) && ((okW N sc it w && okW N (relS scope sc) it2 w2) && ((match cd, ifs with
      | .no, [] => true
      | .yes c, [f] => okE N (relS scope sc) c f
      | _, _ => false) && okE N (relS scope sc) el e))
  | sc, .lrng es, .Call (.Name x _) [.Call (.Name y _) l [] _] [] _ => ((decide (x = "list") && glB sc x) && (decide (y = "range") && glB sc y)) && (okEs N sc es l && decide (exLen es = 1 ∨ exLen es = 2))
  | sc, .sset a, .Call (.Name x _) [.Call (.Name y _) [l] [] _] [] _ => ((decide (x = "sorted") && glB sc x) && (decide (y = "set") && glB sc y)) && okE N sc a l
  | _, _, _ => false
def okW (N : List Str) : Scope → Wk → Expr → Bool
  | sc, .rng es, .Call (.Name x _) l [] _ => (decide (x = "range") && glB sc x) && okEs N sc es l
  | sc, .ex e, x => okE N sc e x
  | _, _, _ => false
def okEs (N : List Str) : Scope → Exs → List Expr → Bool
  | _, .nil, [] => true
  | sc, .cons e es, x :: l => okE N sc e x && okEs N sc es l
  | _, _, _ => false
def okO (N : List Str) : Scope → OEx → Option Expr → Bool
  | _, .no, none => true
  | sc, .yes e, some x => okE N sc e x
  | _, _, _ => false
end
end Pu
set_option Elab.async false
set_option linter.all false
set_option maxRecDepth 100000
namespace Pu
open PySem PySem.Spec PyProof.Rows L2

/-! ### parts of the abstract heap -/
open Classical in
noncomputable def vw (H : Hp) (hd : Addr → Prop) : Hp := fun b => if hd b then none else H b
theorem vw_some {H : Hp} {hd : Addr → Prop} {b : Addr} {o : HO} (h : vw H hd b = some o) : ¬ hd b ∧ H b = some o := by
  unfold vw at h
  split at h
  · cases h
  · exact ⟨by assumption, h⟩
theorem vw_of {H : Hp} {hd : Addr → Prop} {b : Addr} {o : HO} (n : ¬ hd b) (h : H b = some o) : vw H hd b = some o := by
  unfold vw; rw [if_neg n]; exact h
abbrev un (hd : Addr → Prop) (pa : List Addr) : Addr → Prop := fun b => hd b ∨ b ∈ pa
abbrev Le (F F' : Hp) : Prop := ∀ b o, F b = some o → F' b = some o
theorem Le.refl (F : Hp) : Le F F := fun _ _ h => h
theorem Le.trans {F F1 F2 : Hp} (a : Le F F1) (b : Le F1 F2) : Le F F2 := fun c o h => b c o (a c o h)
theorem vw_anti {H : Hp} {hd hd' : Addr → Prop} (h : ∀ b, hd b → hd' b) : Le (vw H hd') (vw H hd) := fun b o e => by
  obtain ⟨n, q⟩ := vw_some e
  exact vw_of (fun z => n (h b z)) q
theorem vw_le {H : Hp} {hd : Addr → Prop} : Le (vw H hd) H := fun b o e => (vw_some e).2
theorem Rd.le {F F' : Hp} {a : Addr} {u : HO} (l : Le F F') (h : Rd F a u) : Rd F' a u := by
  rcases h with h | ⟨o, h⟩
  · exact .inl (l _ _ h)
  · exact .inr ⟨o, l _ _ h⟩
theorem SqT.le {K : PySem.W.Frag} {F F' : Hp} {a : Addr} {xs : List V} (l : Le F F') (h : SqT K F a xs) : SqT K F' a xs := by
  rcases h with h | h
  · exact .inl (Rd.le l h)
  · exact .inr h
mutual
/-- v stands for d over F -/
inductive Rp (K : PySem.W.Frag) (F : Hp) : V → D → Prop
  | mnon : Rp K F .non .non
  | mbl (b : Bool) : Rp K F (.bl b) (.bl b)
  | mint (i : Int) : Rp K F (.int i) (.int i)
  | mstr (l : List Nat) : Rp K F (.str (mkS l)) (.str l)
  | mkL {a : Addr} {xs : List V} {ds : List D} : F a = some (.lst xs) → Rps K F xs ds → Rp K F (.ref a) (.lst ds)
  | mkT {a : Addr} {xs : List V} {ds : List D} : SqT K F a xs → Rps K F xs ds → Rp K F (.ref a) (.tup ds)
inductive Rps (K : PySem.W.Frag) (F : Hp) : List V → List D → Prop
  | nil : Rps K F [] []
  | cons {v : V} {vs : List V} {d : D} {ds : List D} : Rp K F v d → Rps K F vs ds → Rps K F (v :: vs) (d :: ds)
end
mutual
theorem Rp.le {K : PySem.W.Frag} {F F' : Hp} (l : Le F F') : ∀ {d : D} {v : V}, Rp K F v d → Rp K F' v d
  | .non, _, h => by cases h; exact .mnon
  | .bl b, _, h => by cases h; exact .mbl b
  | .int i, _, h => by cases h; exact .mint i
  | .str x, _, h => by cases h; exact .mstr x
  | .lst ds, _, h => by
    cases h with
    | mkL hs ha => exact .mkL (l _ _ hs) (Rps.le l ha)
  | .tup ds, _, h => by
    cases h with
    | mkT hs ha => exact .mkT (SqT.le l hs) (Rps.le l ha)
theorem Rps.le {K : PySem.W.Frag} {F F' : Hp} (l : Le F F') : ∀ {ds : List D} {vs : List V}, Rps K F vs ds → Rps K F' vs ds
  | [], _, h => by cases h; exact .nil
  | d :: ds, _, h => by
    cases h with
    | cons h1 h2 => exact .cons (Rp.le l h1) (Rps.le l h2)
end
mutual
theorem Rp.dp {K : PySem.W.Frag} {F : Hp} : ∀ {d : D} {v : V}, Rp K F v d → Dp K F v (toP d)
  | .non, _, h => by cases h; exact .non
  | .bl b, _, h => by cases h; exact .bl b
  | .int i, _, h => by cases h; exact .int i
  | .str x, _, h => by cases h; exact .str _
  | .lst ds, _, h => by
    cases h with
    | mkL hs ha => exact .lst (SqL.of hs) (Rps.dp ha)
  | .tup ds, _, h => by
    cases h with
    | mkT hs ha => exact .tup hs (Rps.dp ha)
theorem Rps.dp {K : PySem.W.Frag} {F : Hp} : ∀ {ds : List D} {vs : List V}, Rps K F vs ds → DpAll K F vs (toPs ds)
  | [], _, h => by cases h; exact .nil
  | d :: ds, _, h => by
    cases h with
    | cons h1 h2 => exact .cons (Rp.dp h1) (Rps.dp h2)
end
section
variable {K : PySem.W.Frag} {F : Hp} {v : V} {vs : List V}
theorem Rp.non (h : Rp K F v .non) : v = .non := by cases h; rfl
theorem Rp.bl {b : Bool} (h : Rp K F v (.bl b)) : v = .bl b := by cases h; rfl
theorem Rp.int {i : Int} (h : Rp K F v (.int i)) : v = .int i := by cases h; rfl
theorem Rp.str {l : List Nat} (h : Rp K F v (.str l)) : v = .str (mkS l) := by cases h; rfl
theorem Rp.lst {l : List D} (h : Rp K F v (.lst l)) : ∃ a xs, v = .ref a ∧ F a = some (.lst xs) ∧ Rps K F xs l := by
  cases h with
  | mkL hs ha => exact ⟨_, _, rfl, hs, ha⟩
theorem Rp.tup {l : List D} (h : Rp K F v (.tup l)) : ∃ a xs, v = .ref a ∧ SqT K F a xs ∧ Rps K F xs l := by
  cases h with
  | mkT hs ha => exact ⟨_, _, rfl, hs, ha⟩
theorem Rps.inv_nil {vs : List V} (h : Rps K F vs []) : vs = [] := by cases h; rfl
theorem Rps.inv_cons {d : D} {ds : List D} (h : Rps K F vs (d :: ds)) : ∃ x xs, vs = x :: xs ∧ Rp K F x d ∧ Rps K F xs ds := by
  cases h with
  | cons h1 h2 => exact ⟨_, _, rfl, h1, h2⟩
theorem Rps.length : ∀ {vs : List V} {ds : List D}, Rps K F vs ds → vs.length = ds.length
  | vs, [], h => by rw [h.inv_nil]; rfl
  | vs, d :: ds, h => by
    obtain ⟨x, xs, rfl, _, h2⟩ := h.inv_cons
    rw [List.length_cons, List.length_cons, Rps.length h2]
theorem Rps.append : ∀ {vs ws : List V} {ds es : List D}, Rps K F vs ds → Rps K F ws es → Rps K F (vs ++ ws) (ds ++ es)
  | vs, ws, [], es, h, g => by rw [h.inv_nil]; exact g
  | vs, ws, d :: ds, es, h, g => by
    obtain ⟨x, xs, rfl, h1, h2⟩ := h.inv_cons
    exact Rps.cons h1 (Rps.append h2 g)
theorem Rps.take : ∀ {vs : List V} {ds : List D} (n : Nat), Rps K F vs ds → Rps K F (vs.take n) (ds.take n)
  | _, _, 0, _ => by simp only [List.take_zero]; exact .nil
  | vs, [], n + 1, h => by rw [h.inv_nil]; exact .nil
  | vs, d :: ds, n + 1, h => by
    obtain ⟨x, xs, rfl, h1, h2⟩ := h.inv_cons
    exact Rps.cons h1 (Rps.take n h2)
theorem Rps.drop : ∀ {vs : List V} {ds : List D} (n : Nat), Rps K F vs ds → Rps K F (vs.drop n) (ds.drop n)
  | _, _, 0, h => h
  | vs, [], n + 1, h => by rw [h.inv_nil]; exact .nil
  | vs, d :: ds, n + 1, h => by
    obtain ⟨x, xs, rfl, h1, h2⟩ := h.inv_cons
    exact Rps.drop n h2
theorem Rps.get : ∀ {vs : List V} {ds : List D} {i : Nat} {d : D}, Rps K F vs ds → ds[i]? = some d → ∃ v, vs[i]? = some v ∧ Rp K F v d
  | vs, [], i, d, h, e => by simp at e
  | vs, d :: ds, 0, d', h, e => by
    obtain ⟨x, xs, rfl, h1, h2⟩ := h.inv_cons
    simp at e
    subst e
    exact ⟨x, rfl, h1⟩
  | vs, d :: ds, i + 1, d', h, e => by
    obtain ⟨x, xs, rfl, h1, h2⟩ := h.inv_cons
    exact Rps.get (i := i) h2 (by simpa using e)
theorem Rps.get' : ∀ {vs : List V} {ds : List D} {i : Nat} {v : V}, Rps K F vs ds → vs[i]? = some v → ∃ d, ds[i]? = some d ∧ Rp K F v d := fun {vs ds i v} h e => by
  have hl := h.length
  have hi : i < ds.length := by rw [← hl]; exact (List.getElem?_eq_some_iff.mp e).1
  obtain ⟨u, hu, r⟩ := h.get (i := i) (d := ds[i]) (by simp [hi])
  rw [e] at hu
  cases hu
  exact ⟨_, by simp [hi], r⟩
theorem Rps.reverse : ∀ {vs : List V} {ds : List D}, Rps K F vs ds → Rps K F vs.reverse ds.reverse
  | vs, [], h => by rw [h.inv_nil]; exact .nil
  | vs, d :: ds, h => by
    obtain ⟨x, xs, rfl, h1, h2⟩ := h.inv_cons
    rw [List.reverse_cons, List.reverse_cons]
    exact (Rps.reverse h2).append (Rps.cons h1 Rps.nil)
theorem Rps.rep {vs : List V} {ds : List D} (h : Rps K F vs ds) : ∀ k : Nat, Rps K F (List.replicate k vs).flatten (List.replicate k ds).flatten
  | 0 => .nil
  | k + 1 => by
    rw [List.replicate_succ, List.replicate_succ, List.flatten_cons, List.flatten_cons]
    exact h.append (Rps.rep h k)
theorem Rps.cut {vs : List V} {ds : List D} {lo hi : Option Int} (h : Rps K F vs ds) : Rps K F (cutV vs lo hi) (cutL ds lo hi) := by
  unfold cutV cutL
  rw [h.length]
  exact (h.drop _).take _
theorem Rps.set : ∀ {vs : List V} {ds : List D} {v : V} {d : D} (i : Nat), Rps K F vs ds → Rp K F v d → Rps K F (vs.set i v) (ds.set i d)
  | vs, [], _, _, _, h, _ => by rw [h.inv_nil]; exact .nil
  | vs, d :: ds, v, e, 0, h, r => by
    obtain ⟨x, xs, rfl, h1, h2⟩ := h.inv_cons
    exact Rps.cons r h2
  | vs, d :: ds, v, e, i + 1, h, r => by
    obtain ⟨x, xs, rfl, h1, h2⟩ := h.inv_cons
    exact Rps.cons h1 (Rps.set i h2 r)
end

/-! ### the pool, what grows -/
def Sta (H : Hp) (pa : List Addr) : Pool → Prop
  | none => pa = []
  | some ps => ∃ p r a, pa = [p, r, a] ∧ r ≠ a ∧ H p = some (.lst [.ref r, .ref a]) ∧ H r = some (.lst (ps.rows.map V.int)) ∧ H a = some (.lst [.int ps.at_])
structure Grow (pa : List Addr) (H : Hp) (pa' : List Addr) (H' : Hp) : Prop where
  keep : ∀ b o, b ∉ pa → H b = some o → b ∉ pa' ∧ H' b = some o
  same : pa ≠ [] → pa' = pa
theorem Grow.refl {pa : List Addr} {H : Hp} : Grow pa H pa H := ⟨fun _ _ n h => ⟨n, h⟩, fun _ => rfl⟩
theorem Grow.trans {pa pa1 pa2 : List Addr} {H H1 H2 : Hp} (a : Grow pa H pa1 H1) (b : Grow pa1 H1 pa2 H2) : Grow pa H pa2 H2 :=
  ⟨fun c o n h => let ⟨n1, h1⟩ := a.keep c o n h; b.keep c o n1 h1, fun z => by
    have e := a.same z
    subst e
    exact b.same z⟩
theorem Sta.al {H : Hp} {pa : List Addr} {pl : Pool} (s : Sta H pa pl) : ∀ b ∈ pa, H b ≠ none := by
  intro b hb
  cases pl with
  | none => have e : pa = [] := s; subst e; cases hb
  | some ps =>
    obtain ⟨p, r, a, rfl, h0, h1, h2, h3⟩ := s
    simp only [List.mem_cons, List.not_mem_nil, or_false] at hb
    rcases hb with rfl | rfl | rfl
    · rw [h1]; simp
    · rw [h2]; simp
    · rw [h3]; simp
/-- a new object is laid -/
theorem Sta.upd {H : Hp} {pa : List Addr} {pl : Pool} {p : Addr} {o : HO} (s : Sta H pa pl) (n : p ∉ pa) : Sta (upd H p o) pa pl := by
  cases pl with
  | none => exact s
  | some ps =>
    obtain ⟨q, r, a, rfl, h0, h1, h2, h3⟩ := s
    simp only [List.mem_cons, List.not_mem_nil, or_false, not_or] at n
    exact ⟨q, r, a, rfl, h0, by rw [upd_ne (Ne.symm n.1)]; exact h1, by rw [upd_ne (Ne.symm n.2.1)]; exact h2, by rw [upd_ne (Ne.symm n.2.2)]; exact h3⟩
theorem Grow.upd {H : Hp} {pa : List Addr} {p : Addr} {o : HO} (n : H p = none) : Grow pa H pa (upd H p o) :=
  ⟨fun b u nb h => ⟨nb, by rw [upd_ne (ne_of_none h n)]; exact h⟩, fun _ => rfl⟩
theorem Grow.le {pa pa' : List Addr} {H H' : Hp} {hd : Addr → Prop} (g : Grow pa H pa' H') (hs : ∀ b ∈ pa, hd b) : Le (vw H hd) (vw H' (un hd pa')) := fun b o e => by
  obtain ⟨n, q⟩ := vw_some e
  obtain ⟨n', q'⟩ := g.keep b o (fun z => n (hs b z)) q
  exact vw_of (fun z => z.elim n n') q'

/-- where an expression is evaluated: the slots in S stand for the environment, over the heap without hd -/
structure At (K : PySem.W.Frag) (σ : L2.St) (env : Env) (S : List Nat) (H : Hp) (hd : Addr → Prop) (pa : List Addr) (pl : Pool) : Prop where
  sub : ∀ b ∈ pa, hd b
  al : ∀ b, hd b → H b ≠ none
  sta : Sta H pa pl
  see : ∀ i ∈ S, ∀ d, look env i = some d → ∃ v, σ[i]? = some (some v) ∧ Rp K (vw H hd) v d
  pol : ∀ i ∈ S, env[i]? = some Slot.pool → ∃ p r, pa = p :: r ∧ σ[i]? = some (some (.ref p))
structure Out (K : PySem.W.Frag) (H : Hp) (hd : Addr → Prop) (pa : List Addr) (pl' : Pool) (H' : Hp) (pa' : List Addr) : Prop where
  sta : Sta H' pa' pl'
  grow : Grow pa H pa' H'
section
variable {K : PySem.W.Frag} {σ : L2.St} {env : Env} {S S' : List Nat} {H H1 H2 : Hp} {hd : Addr → Prop} {pa pa1 pa2 : List Addr} {pl pl1 pl2 : Pool} {v : V} {d : D}
theorem At.mono (A : At K σ env S H hd pa pl) (h : ∀ i ∈ S', i ∈ S) : At K σ env S' H hd pa pl :=
  ⟨A.sub, A.al, A.sta, fun i hi => A.see i (h i hi), fun i hi => A.pol i (h i hi)⟩
theorem At.next (A : At K σ env S H hd pa pl) (s : Sta H1 pa1 pl1) (g : Grow pa H pa1 H1) : At K σ env S H1 (un hd pa1) pa1 pl1 := by
  refine ⟨fun b hb => .inr hb, fun b hb => ?_, s, fun i hi d e => ?_, fun i hi e => ?_⟩
  · rcases hb with hb | hb
    · by_cases hp : b ∈ pa
      · have e := g.same (by intro z; rw [z] at hp; cases hp)
        exact s.al b (by rw [e]; exact hp)
      · cases q : H b with
        | none => exact absurd q (A.al b hb)
        | some o => rw [(g.keep b o hp q).2]; simp
    · exact s.al b hb
  · obtain ⟨v, e1, r⟩ := A.see i hi d e
    exact ⟨v, e1, r.le (g.le A.sub)⟩
  · obtain ⟨p, r, e1, e2⟩ := A.pol i hi e
    exact ⟨p, r, by rw [g.same (by rw [e1]; simp)]; exact e1, e2⟩
theorem At.sub2 (A : At K σ env S H hd pa pl) (g : Grow pa H pa1 H1) : ∀ b, un (un hd pa1) pa2 b → un hd pa1 b ∨ b ∈ pa2 := fun b h => h
end

/-! ### what is wanted of an expression, as a reading -/
def RD (K : PySem.W.Frag) (ex : Ex) : TE := fun σ H Q => ∃ hd pa pl env d pl', At K σ env (varsE ex) H hd pa pl ∧ evE ex env pl = some (d, pl') ∧
  ∀ v H' pa', Sta H' pa' pl' → Grow pa H pa' H' → Rp K (vw H' (un hd pa')) v d → Q v H'
/-- .. of a test -/
def RT (K : PySem.W.Frag) (ex : Ex) : TT := fun σ H Q => ∃ hd pa pl env d k pl', At K σ env (varsE ex) H hd pa pl ∧ evE ex env pl = some (d, pl') ∧ truD d = some k ∧
  ∀ H' pa', Sta H' pa' pl' → Grow pa H pa' H' → Q k H'
/-- .. of arguments -/
def RA (K : PySem.W.Frag) (es : Exs) : TA := fun σ H Q => ∃ hd pa pl env ds pl', At K σ env (varsEs es) H hd pa pl ∧ evEs es env pl = some (ds, pl') ∧
  ∀ vs H' pa', Sta H' pa' pl' → Grow pa H pa' H' → Rps K (vw H' (un hd pa')) vs ds → Q vs H'
/-- .. of a slice's part -/
def RO (K : PySem.W.Frag) (es : OEx) : TO := fun σ H Q => ∃ hd pa pl env o pl', At K σ env (varsO es) H hd pa pl ∧ evO es env pl = some (o, pl') ∧
  ∀ H' pa', Sta H' pa' pl' → Grow pa H pa' H' → Q o H'
theorem un_un {hd : Addr → Prop} {pa pa1 : List Addr} {H H1 : Hp} (g : Grow pa H pa1 H1) : ∀ b, un hd pa1 b → un (un hd pa) pa1 b := fun b h => h.elim (fun z => .inl (.inl z)) .inr
/-- the last hiding is enough -/
theorem le_un {H : Hp} {hd : Addr → Prop} {pa1 pa2 : List Addr} : Le (vw H (un (un hd pa1) pa2)) (vw H (un hd pa2)) := vw_anti fun b h => h.elim (fun z => .inl (.inl z)) .inr

section
variable {X : Cx} {K : PySem.W.Frag} {σ : L2.St} {env : Env} {S : List Nat} {H : Hp} {hd : Addr → Prop} {pa : List Addr} {pl pl1 pl2 : Pool} {d d1 d2 : D}
theorem RD.mk {ex : Ex} {Q : VK} (A : At K σ env S H hd pa pl) (hs : ∀ i ∈ varsE ex, i ∈ S) (e : evE ex env pl = some (d, pl1))
    (h : ∀ v H' pa', At K σ env S H' (un hd pa') pa' pl1 → Grow pa H pa' H' → Rp K (vw H' (un hd pa')) v d → Q v H') : RD K ex σ H Q :=
  ⟨hd, pa, pl, env, d, pl1, A.mono hs, e, fun v H' pa' s g r => h v H' pa' (A.next s g) g r⟩
theorem RA.mk {es : Exs} {ds : List D} {Q : List V → Hp → Prop} (A : At K σ env S H hd pa pl) (hs : ∀ i ∈ varsEs es, i ∈ S) (e : evEs es env pl = some (ds, pl1))
    (h : ∀ v H' pa', At K σ env S H' (un hd pa') pa' pl1 → Grow pa H pa' H' → Rps K (vw H' (un hd pa')) v ds → Q v H') : RA K es σ H Q :=
  ⟨hd, pa, pl, env, ds, pl1, A.mono hs, e, fun v H' pa' s g r => h v H' pa' (A.next s g) g r⟩
theorem RO.mk {es : OEx} {o : Option Int} {Q : Option Int → Hp → Prop} (A : At K σ env S H hd pa pl) (hs : ∀ i ∈ varsO es, i ∈ S) (e : evO es env pl = some (o, pl1))
    (h : ∀ H' pa', At K σ env S H' (un hd pa') pa' pl1 → Grow pa H pa' H' → Q o H') : RO K es σ H Q :=
  ⟨hd, pa, pl, env, o, pl1, A.mono hs, e, fun H' pa' s g => h H' pa' (A.next s g) g⟩
theorem RT.mk {ex : Ex} {k : Bool} {Q : Bool → Hp → Prop} (A : At K σ env S H hd pa pl) (hs : ∀ i ∈ varsE ex, i ∈ S) (e : evE ex env pl = some (d, pl1)) (t : truD d = some k)
    (h : ∀ H' pa', At K σ env S H' (un hd pa') pa' pl1 → Grow pa H pa' H' → Q k H') : RT K ex σ H Q :=
  ⟨hd, pa, pl, env, d, k, pl1, A.mono hs, e, t, fun H' pa' s g => h H' pa' (A.next s g) g⟩
end
/-- what a step makes of the heap: nothing, a new list, a new tuple; fr: a list is always a new one -/
def Res (K : PySem.W.Frag) (fr : Bool) (F H : Hp) (d : D) (v : V) (H' : Hp) : Prop :=
  (H' = H ∧ (fr = true → ∀ ds, d ≠ .lst ds) ∧ ∀ F', Le F F' → Rp K F' v d) ∨
  (∃ p vs ds, d = .lst ds ∧ v = .ref p ∧ H p = none ∧ H' = upd H p (.lst vs) ∧ Rps K F vs ds) ∨
  (∃ p vs ds, d = .tup ds ∧ v = .ref p ∧ H p = none ∧ H' = upd H p (.tup vs) ∧ Rps K F vs ds)
theorem Res.weak {K : PySem.W.Frag} {fr : Bool} {F H H' : Hp} {d : D} {v : V} (h : Res K fr F H d v H') : Res K false F H d v H' := by
  rcases h with ⟨h1, _, h3⟩ | h | h
  · exact .inl ⟨h1, (fun z => by cases z), h3⟩
  · exact .inr (.inl h)
  · exact .inr (.inr h)
theorem Res.old {K : PySem.W.Frag} {fr : Bool} {F H : Hp} {d : D} {v : V} (h : ∀ F' : Hp, Rp K F' v d) : Res K fr F H d v H :=
  .inl ⟨rfl, (fun _ ds e => by
    subst e
    obtain ⟨a, xs, rfl, h1, _⟩ := (h fun _ => none).lst
    cases h1), fun F' _ => h F'⟩
/-- a rule by values: x and y stand for a and b, a value that stands for d is wanted -/
def R2D (K : PySem.W.Frag) (fr : Bool) (a b d : D) : R2 := fun x y H Q => ∃ F : Hp, Le F H ∧ Rp K F x a ∧ Rp K F y b ∧ ∀ v H', Res K fr F H d v H' → Q v H'
def R1D (K : PySem.W.Frag) (fr : Bool) (a d : D) : V → Hp → VK → Prop := fun x H Q => ∃ F : Hp, Le F H ∧ Rp K F x a ∧ ∀ v H', Res K fr F H d v H' → Q v H'
def RND (K : PySem.W.Frag) (fr : Bool) (as : List D) (d : D) : List V → Hp → VK → Prop := fun xs H Q => ∃ F : Hp, Le F H ∧ Rps K F xs as ∧ ∀ v H', Res K fr F H d v H' → Q v H'
section
variable {K : PySem.W.Frag} {σ : L2.St} {env : Env} {S : List Nat} {H H' : Hp} {hd : Addr → Prop} {pa : List Addr} {pl : Pool} {v : V} {d : D} {F : Hp} {fr : Bool}
theorem At.new (A : At K σ env S H hd pa pl) {p : Addr} {o : HO} (n : H p = none) : Sta (upd H p o) pa pl ∧ Le (vw H hd) (vw (upd H p o) hd) ∧ vw (upd H p o) hd p = some o := by
  have np : p ∉ pa := fun z => A.al p (A.sub p z) n
  refine ⟨A.sta.upd np, fun b u h => ?_, vw_of (fun z => A.al p z n) upd_same⟩
  obtain ⟨h1, h2⟩ := vw_some h
  exact vw_of h1 (by rw [upd_ne (ne_of_none h2 n)]; exact h2)
/-- the end of such a rule -/
theorem At.fin (A : At K σ env S H hd pa pl) (r : Res K fr (vw H hd) H d v H') : Sta H' pa pl ∧ Grow pa H pa H' ∧ Rp K (vw H' hd) v d := by
  rcases r with ⟨rfl, _, h⟩ | ⟨p, vs, ds, rfl, rfl, n, rfl, h⟩ | ⟨p, vs, ds, rfl, rfl, n, rfl, h⟩
  · exact ⟨A.sta, .refl, h _ (.refl _)⟩
  · obtain ⟨h1, h2, h3⟩ := A.new (o := .lst vs) n
    exact ⟨h1, .upd n, .mkL h3 (h.le h2)⟩
  · obtain ⟨h1, h2, h3⟩ := A.new (o := .tup vs) n
    exact ⟨h1, .upd n, .mkT (SqT.of h3) (h.le h2)⟩
end
end Pu
set_option Elab.async false
set_option linter.all false
set_option maxRecDepth 100000
namespace Pu
open PySem PySem.Spec PyProof.Rows L2

section
variable {X : Cx} {K : PySem.W.Frag} {F H : Hp} {a b d : D} {x y v : V}
theorem mkS_app (a b : List Nat) : (mkS a ++ mkS b : Str) = mkS (a ++ b) := by
  apply TL.ext_tl
  rw [TL.tl_append]
theorem mkS_len (a : List Nat) : (mkS a).length = a.length := by simp [Str.length]
theorem toPs_append : ∀ a b : List D, toPs (a ++ b) = toPs a ++ toPs b
  | [], _ => rfl
  | x :: a, b => by rw [List.cons_append, toPs, toPs, toPs_append a b, List.cons_append]
theorem Rps.nil_iff {vs : List V} {ds : List D} (h : Rps K F vs ds) : vs = [] ↔ ds = [] := by
  cases h <;> simp
theorem r2_add : OpR X (binaryOp .Add) (fun x y H Q => ∃ a b d, opBin .Add a b = some d ∧ R2D X.K true a b d x y H Q) := by
  intro pins s σ H x y v u Q I rx ry h
  obtain ⟨a, b, d, e, F, l, ra, rb, q⟩ := h
  cases a <;> cases b <;> first | (cases e; done) | skip
  · cases ra.int; cases rb.int
    cases Option.some.inj e
    exact op_add pins s σ H _ _ v u Q I rx ry ⟨_, _, rfl, rfl, q _ _ (.old fun _ => .mint _)⟩
  · rename_i i j
    cases ra.str; cases rb.str
    obtain ⟨hz, rfl⟩ := gd_some e
    refine op_add_str pins s σ H _ _ v u Q I rx ry ⟨_, _, rfl, rfl, by rw [mkS_len, mkS_len]; exact hz, ?_⟩
    rw [mkS_app]
    exact q _ _ (.old fun _ => .mstr _)
  · obtain ⟨p, xs, rfl, hp, rp⟩ := ra.lst
    obtain ⟨p', xs', rfl, hp', rp'⟩ := rb.lst
    obtain ⟨hz, rfl⟩ := gd_some e
    refine op_cat pins s σ H _ _ v u Q I rx ry ⟨p, p', xs, xs', rfl, rfl, l _ _ hp, l _ _ hp', by rw [rp.length, rp'.length]; exact hz, fun n hn => ?_⟩
    exact q _ _ (.inr (.inl ⟨n, _, _, rfl, rfl, hn, rfl, rp.append rp'⟩))
  · obtain ⟨p, xs, rfl, hp, rp⟩ := ra.tup
    obtain ⟨p', xs', rfl, hp', rp'⟩ := rb.tup
    obtain ⟨hz, rfl⟩ := gd_some e
    have hz' : xs.length + xs'.length ≤ sizeLine := by rw [rp.length, rp'.length]; exact hz
    refine op_catA pins s σ H _ _ v u Q I rx ry ⟨p, p', xs, xs', rfl, rfl, SqT.le l hp, SqT.le l hp', hz', fun z => ?_, fun z1 z2 => ?_, fun z1 z2 n hn => ?_⟩
    · have z' := rp.nil_iff.mp z
      refine q _ _ (.inl ⟨rfl, (fun _ ds e => by simp at e), fun F' l' => ?_⟩)
      rw [z', List.nil_append]
      exact .mkT (SqT.le l' hp') (rp'.le l')
    · have z' := rp'.nil_iff.mp z2
      refine q _ _ (.inl ⟨rfl, (fun _ ds e => by simp at e), fun F' l' => ?_⟩)
      rw [z', List.append_nil]
      exact .mkT (SqT.le l' hp) (rp.le l')
    · exact q _ _ (.inr (.inr ⟨n, _, _, rfl, rfl, hn, rfl, rp.append rp'⟩))
theorem r2_sub : OpR X (binaryOp .Sub) (fun x y H Q => ∃ a b d, opBin .Sub a b = some d ∧ R2D X.K true a b d x y H Q) := by
  intro pins s σ H x y v u Q I rx ry h
  obtain ⟨a, b, d, e, F, l, ra, rb, q⟩ := h
  cases a <;> cases b <;> first | (cases e; done) | skip
  cases ra.int; cases rb.int
  cases Option.some.inj e
  exact op_sub pins s σ H _ _ v u Q I rx ry ⟨_, _, rfl, rfl, q _ _ (.old fun _ => .mint _)⟩
theorem foldl_app (a : Array Nat) : ∀ (k : Nat) (acc : Array Nat), ((List.replicate k a).foldl (fun x y => x ++ y) acc).toList = acc.toList ++ (List.replicate k a.toList).flatten
  | 0, acc => by simp
  | k + 1, acc => by
    rw [List.replicate_succ, List.foldl_cons, foldl_app a k, List.replicate_succ, List.flatten_cons]
    simp
theorem mul_eq (a : List Nat) (n : Int) : Txt.mul (mkS a) n = mkS (List.replicate n.toNat a).flatten := by
  apply TL.ext_tl
  unfold Txt.mul
  by_cases h1 : n < 1
  · rw [if_pos h1]
    have e : n.toNat = 0 := by omega
    rw [e]
    rfl
  · rw [if_neg h1]
    by_cases h2 : (n == 1 || (mkS a).length == 0) = true
    · rw [if_pos h2]
      rw [Bool.or_eq_true] at h2
      rcases h2 with h2 | h2
      · have e : n = 1 := eq_of_beq h2
        subst e
        simp
      · have e : a = [] := by
          have z : (mkS a).length = 0 := eq_of_beq h2
          rw [mkS_len] at z
          exact List.length_eq_zero_iff.mp z
        subst e
        simp
    · rw [if_neg h2]
      show ((List.replicate n.toNat (mkS a).cps).foldl (fun x y => x ++ y) #[]).toList = _
      rw [foldl_app]
      simp [TL.tl]
theorem r2_mul : OpR X (binaryOp .Mult) (fun x y H Q => ∃ a b d, opBin .Mult a b = some d ∧ R2D X.K true a b d x y H Q) := by
  intro pins s σ H x y v u Q I rx ry h
  obtain ⟨a, b, d, e, F, l, ra, rb, q⟩ := h
  cases a <;> cases b <;> first | (cases e; done) | skip
  · cases ra.int; cases rb.int
    obtain ⟨hz, rfl⟩ := gd_some e
    exact op_mul pins s σ H _ _ v u Q I rx ry ⟨_, _, rfl, rfl, hz, q _ _ (.old fun _ => .mint _)⟩
  · rename_i a n
    cases ra.str; cases rb.int
    obtain ⟨⟨⟨h1, h2⟩, h3⟩, rfl⟩ := gd_some e
    obtain ⟨t, rfl⟩ := rx
    obtain ⟨t', rfl⟩ := ry
    have hs : sizeLine = 16777216 := sizeLine_eq
    refine PySem.SB.mul ⟨?_, fun z1 _ => ?_, fun _ _ => ?_⟩ fun t2 k => ?_
    · rw [decide_eq_false (by omega), decide_eq_false (by omega)] <;> rfl
    · rw [mkS_len]
      have h4 : (a.length : Int) * n ≤ 16777216 := by
        have : ((a.length * n.toNat : Nat) : Int) ≤ 16777216 := by omega
        rw [Int.natCast_mul, Int.toNat_of_nonneg (by omega)] at this
        exact this
      have h5 : (a.length : Int) ≤ 16777216 := by
        have : (a.length : Int) * 1 ≤ (a.length : Int) * n := Int.mul_le_mul_of_nonneg_left (by omega) (by omega)
        omega
      have h6 : (a.length : Int) ≤ (2 ^ 63 - 1) / n := by
        rw [Int.le_ediv_iff_mul_le (by omega)]
        omega
      omega
    · rw [mkS_len]
      exact decide_eq_false (by omega)
    · refine ⟨.str (mkS (List.replicate n.toNat a).flatten), H, I.tok k, ⟨t2, by rw [mul_eq]⟩, q _ _ (.old fun _ => .mstr _)⟩
  · rename_i a n
    obtain ⟨p, xs, rfl, hp, rp⟩ := ra.lst
    cases rb.int
    obtain ⟨⟨⟨h1, h2⟩, h3⟩, rfl⟩ := gd_some e
    refine op_rep pins s σ H _ _ v u Q I rx ry ⟨p, n, xs, rfl, rfl, l _ _ hp, by omega, by omega, by rw [rp.length]; exact h3, fun m hm => ?_⟩
    exact q _ _ (.inr (.inl ⟨m, _, _, rfl, rfl, hm, rfl, rp.rep _⟩))
theorem r2_fdiv : OpR X (binaryOp .FloorDiv) (fun x y H Q => ∃ a b d, opBin .FloorDiv a b = some d ∧ R2D X.K true a b d x y H Q) := by
  intro pins s σ H x y v u Q I rx ry h
  obtain ⟨a, b, d, e, F, l, ra, rb, q⟩ := h
  cases a <;> cases b <;> first | (cases e; done) | skip
  cases ra.int; cases rb.int
  obtain ⟨hz, rfl⟩ := gd_some e
  exact op_fdiv pins s σ H _ _ v u Q I rx ry ⟨_, _, rfl, rfl, hz, q _ _ (.old fun _ => .mint _)⟩
theorem r2_mod : OpR X (binaryOp .Mod) (fun x y H Q => ∃ a b d, opBin .Mod a b = some d ∧ R2D X.K true a b d x y H Q) := by
  intro pins s σ H x y v u Q I rx ry h
  obtain ⟨a, b, d, e, F, l, ra, rb, q⟩ := h
  cases a <;> cases b <;> first | (cases e; done) | skip
  cases ra.int; cases rb.int
  obtain ⟨hz, rfl⟩ := gd_some e
  exact op_mod pins s σ H _ _ v u Q I rx ry ⟨_, _, rfl, rfl, hz, q _ _ (.old fun _ => .mint _)⟩
theorem r2_pow : OpR X (binaryOp .Pow) (fun x y H Q => ∃ a b d, opBin .Pow a b = some d ∧ R2D X.K true a b d x y H Q) := by
  intro pins s σ H x y v u Q I rx ry h
  obtain ⟨a, b, d, e, F, l, ra, rb, q⟩ := h
  cases a <;> cases b <;> first | (cases e; done) | skip
  cases ra.int; cases rb.int
  obtain ⟨hz, rfl⟩ := gd_some e
  exact op_pow pins s σ H _ _ v u Q I rx ry ⟨_, _, rfl, rfl, hz, q _ _ (.old fun _ => .mint _)⟩
theorem r2_bin (op : Operator) : OpR X (binaryOp op) (fun x y H Q => ∃ a b d, opBin op a b = some d ∧ R2D X.K true a b d x y H Q) := by
  cases op
  case Add => exact r2_add
  case Sub => exact r2_sub
  case Mult => exact r2_mul
  case Mod => exact r2_mod
  case FloorDiv => exact r2_fdiv
  case Pow => exact r2_pow
  all_goals
    intro pins s σ H x y v u Q I rx ry h
    obtain ⟨a, b, d, e, _⟩ := h
    cases a <;> cases b <;> exact absurd e (by simp [opBin])

/-! ### comparisons -/
theorem shp_ok {d : D} (h : shp d = true) : SeqAt.shaped (toP d) = true := by
  unfold shp at h
  unfold SeqAt.shaped
  rw [chD_ok, depD_ok]
  exact h
theorem depD_scal {a b : D} (h : scalD a b = true) : depD a = 0 ∧ depD b = 0 := by
  cases a <;> cases b <;> first | (cases h; done) | exact ⟨rfl, rfl⟩
theorem eqv_scal {a b : D} (h : scalD a b = true) {x y : V} {F : Hp} (ra : Rp K F x a) (rb : Rp K F y b) : scal x y = true ∧ decide (x = y) = eqv a b := by
  cases a <;> cases b <;> first | (cases h; done) | skip
  all_goals
    cases ra
    cases rb
    refine ⟨rfl, ?_⟩
    simp [eqv]
    try first | rfl | exact (Bool.beq_eq_decide_eq _ _).symm
theorem r2_eq (hu : X.A.units + 64 < cLine) : OpR X (compareOp .Eq) (fun x y H Q => ∃ a b k, eqD a b = some k ∧ R2D X.K true a b (.bl k) x y H Q) := by
  intro pins s σ H x y v u Q I rx ry h
  obtain ⟨a, b, k, e, F, l, ra, rb, q⟩ := h
  unfold eqD at e
  split at e
  · cases Option.some.inj e
    obtain ⟨h1, h2⟩ := eqv_scal (by assumption) ra rb
    refine op_eq pins s σ H x y v u Q I rx ry ⟨h1, ?_⟩
    rw [h2]
    exact q _ _ (.old fun _ => .mbl _)
  · split at e
    · cases Option.some.inj e
      rename_i h
      rw [Bool.and_eq_true] at h
      refine op_eqD hu pins s σ H x y v u Q I rx ry ⟨_, _, (ra.le l).dp, (rb.le l).dp, shp_ok h.1, shp_ok h.2, ?_⟩
      rw [eqv_toP]
      exact q _ _ (.old fun _ => .mbl _)
    · cases e
theorem r2_ne (hu : X.A.units + 64 < cLine) : OpR X (compareOp .NotEq) (fun x y H Q => ∃ a b k, (eqD a b).map (!·) = some k ∧ R2D X.K true a b (.bl k) x y H Q) := by
  intro pins s σ H x y v u Q I rx ry h
  obtain ⟨a, b, k, e, F, l, ra, rb, q⟩ := h
  obtain ⟨k', e1, rfl⟩ := Option.map_eq_some_iff.mp e
  clear e
  have e := e1
  clear e1
  unfold eqD at e
  split at e
  · cases Option.some.inj e
    obtain ⟨h1, h2⟩ := eqv_scal (by assumption) ra rb
    refine op_ne pins s σ H x y v u Q I rx ry ⟨h1, ?_⟩
    rw [h2]
    exact q _ _ (.old fun _ => .mbl _)
  · split at e
    · cases Option.some.inj e
      rename_i h
      rw [Bool.and_eq_true] at h
      refine op_neD hu pins s σ H x y v u Q I rx ry ⟨_, _, (ra.le l).dp, (rb.le l).dp, shp_ok h.1, shp_ok h.2, ?_⟩
      rw [eqv_toP]
      exact q _ _ (.old fun _ => .mbl _)
    · cases e
theorem Rp.reads {pins : List (Addr × Obj)} {s : Shared} {σ : L2.St} {H : Hp} {v : Value} (I : Inv X pins σ H s) (h : Rp X.K H x d) (r : RelV x v) : ∃ as, Reads s.heap v (toP d) as := Dp.reads I _ _ _ h.dp r
theorem notNone_ok {d : D} (h : notNone d = true) : toP d ≠ .none := by
  cases d <;> simp [toP] at *
  cases h
theorem r2_lt (hu : X.A.units + 64 < cLine) : OpR X (compareOp .Lt) (fun x y H Q => ∃ a b k, ltD a b = some k ∧ R2D X.K true a b (.bl k) x y H Q) := by
  intro pins s σ H x y v u Q I rx ry h
  obtain ⟨a, b, k, e, F, l, ra, rb, q⟩ := h
  unfold ltD at e
  split at e
  · cases Option.some.inj e
    cases ra.int; cases rb.int
    exact op_lt pins s σ H _ _ v u Q I rx ry ⟨_, _, rfl, rfl, q _ _ (.old fun _ => .mbl _)⟩
  · cases Option.some.inj e
    cases ra.str; cases rb.str
    exact op_lt_str pins s σ H _ _ v u Q I rx ry ⟨_, _, rfl, rfl, q _ _ (.old fun _ => .mbl _)⟩
  · obtain ⟨h, rfl⟩ := gd_some e
    rw [Bool.and_eq_true, Bool.and_eq_true, decide_eq_true_eq] at h
    obtain ⟨as, r1⟩ := (ra.le l).reads I rx
    obtain ⟨bs, r2⟩ := (rb.le l).reads I ry
    refine PySem.W.lt_data r1 r2 h.1 (notNone_ok h.2.1) (by rw [depD_ok]; omega) ⟨.bl _, H, I, rfl, q _ _ (.old fun _ => .mbl _)⟩
theorem r2_gt (hu : X.A.units + 64 < cLine) : OpR X (compareOp .Gt) (fun x y H Q => ∃ a b k, ltD b a = some k ∧ R2D X.K true a b (.bl k) x y H Q) := by
  intro pins s σ H x y v u Q I rx ry h
  obtain ⟨a, b, k, e, F, l, ra, rb, q⟩ := h
  unfold ltD at e
  split at e
  · cases Option.some.inj e
    cases ra.int; cases rb.int
    exact op_gt pins s σ H _ _ v u Q I rx ry ⟨_, _, rfl, rfl, q _ _ (.old fun _ => .mbl _)⟩
  · cases Option.some.inj e
    cases ra.str; cases rb.str
    exact op_gt_str pins s σ H _ _ v u Q I rx ry ⟨_, _, rfl, rfl, q _ _ (.old fun _ => .mbl _)⟩
  · obtain ⟨h, rfl⟩ := gd_some e
    rw [Bool.and_eq_true, Bool.and_eq_true, decide_eq_true_eq] at h
    obtain ⟨as, r1⟩ := (ra.le l).reads I rx
    obtain ⟨bs, r2⟩ := (rb.le l).reads I ry
    have h1 : PySem.W.alike (toP a) (toP b) = true := by rw [PySem.W.alike_comm]; exact h.1
    refine PySem.W.gt_data r1 r2 h1 (PySem.W.ne_none_both h.1 (notNone_ok h.2.1)) (by rw [depD_ok, depD_ok]; omega) ⟨.bl _, H, I, rfl, q _ _ (.old fun _ => .mbl _)⟩
theorem r2_le (hu : X.A.units + 64 < cLine) : OpR X (compareOp .LtE) (fun x y H Q => ∃ a b k, (ltD b a).map (!·) = some k ∧ R2D X.K true a b (.bl k) x y H Q) := by
  intro pins s σ H x y v u Q I rx ry h
  obtain ⟨a, b, k, e, F, l, ra, rb, q⟩ := h
  obtain ⟨k', e1, rfl⟩ := Option.map_eq_some_iff.mp e
  clear e
  have e := e1
  clear e1
  unfold ltD at e
  split at e
  · cases Option.some.inj e
    cases ra.int; cases rb.int
    rename_i i j
    have z : (!decide (i < j)) = decide (j ≤ i) := by rw [← decide_not]; exact decide_eq_decide.mpr (by omega)
    refine op_le pins s σ H _ _ v u Q I rx ry ⟨_, _, rfl, rfl, ?_⟩
    show Q (V.bl (decide (j ≤ i))) H
    rw [← z]
    exact q _ _ (.old fun _ => .mbl _)
  · cases Option.some.inj e
    cases ra.str; cases rb.str
    exact op_le_str pins s σ H _ _ v u Q I rx ry ⟨_, _, rfl, rfl, q _ _ (.old fun _ => .mbl _)⟩
  · obtain ⟨h, rfl⟩ := gd_some e
    rw [Bool.and_eq_true, Bool.and_eq_true, decide_eq_true_eq] at h
    obtain ⟨as, r1⟩ := (ra.le l).reads I rx
    obtain ⟨bs, r2⟩ := (rb.le l).reads I ry
    have h1 : PySem.W.alike (toP a) (toP b) = true := by rw [PySem.W.alike_comm]; exact h.1
    refine PySem.W.le_data r1 r2 h1 (PySem.W.ne_none_both h.1 (notNone_ok h.2.1)) (by rw [depD_ok, depD_ok]; omega) ⟨.bl _, H, I, rfl, q _ _ (.old fun _ => .mbl _)⟩
theorem r2_ge (hu : X.A.units + 64 < cLine) : OpR X (compareOp .GtE) (fun x y H Q => ∃ a b k, (ltD a b).map (!·) = some k ∧ R2D X.K true a b (.bl k) x y H Q) := by
  intro pins s σ H x y v u Q I rx ry h
  obtain ⟨a, b, k, e, F, l, ra, rb, q⟩ := h
  obtain ⟨k', e1, rfl⟩ := Option.map_eq_some_iff.mp e
  clear e
  have e := e1
  clear e1
  unfold ltD at e
  split at e
  · cases Option.some.inj e
    cases ra.int; cases rb.int
    rename_i i j
    have z : (!decide (i < j)) = decide (j ≤ i) := by rw [← decide_not]; exact decide_eq_decide.mpr (by omega)
    refine op_ge pins s σ H _ _ v u Q I rx ry ⟨_, _, rfl, rfl, ?_⟩
    show Q (V.bl (decide (j ≤ i))) H
    rw [← z]
    exact q _ _ (.old fun _ => .mbl _)
  · cases Option.some.inj e
    cases ra.str; cases rb.str
    exact op_ge_str pins s σ H _ _ v u Q I rx ry ⟨_, _, rfl, rfl, q _ _ (.old fun _ => .mbl _)⟩
  · obtain ⟨h, rfl⟩ := gd_some e
    rw [Bool.and_eq_true, Bool.and_eq_true, decide_eq_true_eq] at h
    obtain ⟨as, r1⟩ := (ra.le l).reads I rx
    obtain ⟨bs, r2⟩ := (rb.le l).reads I ry
    refine PySem.W.ge_data r1 r2 h.1 (notNone_ok h.2.1) (by rw [depD_ok]; omega) ⟨.bl _, H, I, rfl, q _ _ (.old fun _ => .mbl _)⟩
end
end Pu
set_option Elab.async false
set_option linter.all false
set_option maxRecDepth 100000
namespace Pu
open PySem PySem.Spec PyProof.Rows L2

section
variable {X : Cx} {K : PySem.W.Frag} {F H : Hp} {a b d : D} {x y v : V}
theorem flat_ok {x : V} {d : D} (h : Rp K F x d) (f : flatD d = true) : flatV x = true := by
  cases h <;> first | rfl | cases f
theorem flats_ok : ∀ {vs : List V} {ds : List D}, Rps K F vs ds → ds.all flatD = true → vs.all flatV = true
  | vs, [], h, _ => by rw [h.inv_nil]; rfl
  | vs, d :: ds, h, f => by
    obtain ⟨x, xs, rfl, h1, h2⟩ := h.inv_cons
    rw [List.all_cons, Bool.and_eq_true] at f ⊢
    exact ⟨flat_ok h1 f.1, flats_ok h2 f.2⟩
theorem mkS_beq (x y : List Nat) : ((mkS x : Str) == mkS y) = (x == y) := str_beq x y
theorem eqV_ok {x y : V} {d e : D} (hx : Rp K F x d) (hy : Rp K F y e) (fd : flatD d = true) (fe : flatD e = true) : eqV x y = eqv d e := by
  cases hx <;> first | (cases fd; done) | skip
  all_goals (cases hy <;> first | (cases fe; done) | rfl | (simp [eqV, eqv, str_beq]; done))
theorem anyV_ok {x : V} {d : D} (hx : Rp K F x d) (fd : flatD d = true) : ∀ {vs : List V} {ds : List D}, Rps K F vs ds → ds.all flatD = true → inV x vs = ds.any fun y => eqv y d
  | vs, [], h, _ => by rw [h.inv_nil]; rfl
  | vs, e :: ds, h, f => by
    obtain ⟨z, xs, rfl, h1, h2⟩ := h.inv_cons
    rw [List.all_cons, Bool.and_eq_true] at f
    have ih := anyV_ok hx fd h2 f.2
    unfold inV at ih ⊢
    rw [List.any_cons, List.any_cons, ih, eqV_ok h1 hx f.1 fd]
theorem any_toP {d : D} : ∀ ds : List D, ((toPs ds).any fun y => PyData.eqv y (toP d)) = ds.any fun y => eqv y d
  | [] => rfl
  | e :: ds => by rw [toPs, List.any_cons, List.any_cons, eqv_toP, any_toP ds]
theorem inL_cases {x : D} {ys : List D} {k : Bool} (h : inL x ys = some k) : (((flatD x = true ∧ ys.all flatD = true) ∨ (shp x = true ∧ chDs ys = true ∧ depDs ys ≤ 32))) ∧ (ys.any fun y => eqv y x) = k := by
  obtain ⟨h1, h2⟩ := gd_some h
  refine ⟨?_, h2⟩
  rw [Bool.or_eq_true, Bool.and_eq_true, Bool.and_eq_true, Bool.and_eq_true, decide_eq_true_eq] at h1
  exact h1
theorem chD_shp {d : D} (h : shp d = true) : chD d = true ∧ depD d ≤ 64 := by
  unfold shp at h
  rw [Bool.and_eq_true, decide_eq_true_eq] at h
  exact h
theorem in_one (c : Nat) (b : List Nat) : (V.str (mkS [c])) = V.str ⟨#[c]⟩ := rfl
theorem in_any {neg : Bool} (hu : X.A.units + 64 < cLine) : OpR X (compareOp (if neg = true then .NotIn else .In)) (fun x y H Q => ∃ a b k, inD a b = some k ∧ R2D X.K true a b (.bl (if neg = true then !k else k)) x y H Q) := by
  intro pins s σ H x y v u Q I rx ry h
  obtain ⟨a, b, k, e, F, l, ra, rb, q⟩ := h
  unfold inD at e
  have seq : ∀ (p : Addr) (xs : List V) (ys : List D), (H p = some (.lst xs) ∨ SqT X.K H p xs) → Rps X.K H xs ys → inL a ys = some k → y = .ref p → Rp X.K H y b → (b = .lst ys ∨ b = .tup ys) →
      wpAny (model X.prog X.w) X.A (compareOp (if neg = true then .NotIn else .In) v u) (EP X pins σ Q) X.xe s := by
    intro p xs ys hp hr hi hy rb hb
    subst hy
    obtain ⟨hc, rfl⟩ := inL_cases hi
    rcases hc with ⟨f1, f2⟩ | ⟨f1, f2, f3⟩
    · have ea := anyV_ok (ra.le l) f1 hr f2
      cases neg
      · refine op_in_seq pins s σ H _ _ v u Q I rx ry ⟨p, xs, rfl, hp.imp SqL.of id, flat_ok ra f1, flats_ok hr f2, ?_⟩
        simp only [Bool.false_eq_true, if_false] at q ⊢
        rw [ea]
        exact q _ _ (.old fun _ => .mbl _)
      · refine op_notIn_seq pins s σ H _ _ v u Q I rx ry ⟨p, xs, rfl, hp.imp SqL.of id, flat_ok ra f1, flats_ok hr f2, ?_⟩
        simp only [if_true] at q ⊢
        rw [ea]
        exact q _ _ (.old fun _ => .mbl _)
    · obtain ⟨as, r1⟩ := (ra.le l).reads I rx
      obtain ⟨bs, r2⟩ := rb.reads I ry
      obtain ⟨g1, g2⟩ := chD_shp f1
      have hu2 : X.A.units + 1 + min (PyData.depthAll (toPs ys)) (toP a).depth < cLine := by
        rw [depDs_ok]
        have := Nat.min_le_left (depDs ys) (toP a).depth
        omega
      have fin : ∀ kk : Bool, kk = (if neg = true then !(ys.any fun y => eqv y a) else ys.any fun y => eqv y a) → EP X pins σ Q (.bool kk) s := fun kk e => by
        subst e
        exact ⟨.bl _, H, I, rfl, q _ _ (.old fun _ => .mbl _)⟩
      rcases hb with rfl | rfl
      · cases neg
        · exact SeqAt.in_list_reads r2 r1 (by rw [chDs_ok]; exact f2) (by rw [chD_ok]; exact g1) hu2 (fin _ (any_toP _))
        · refine SeqAt.notIn_list_reads r2 r1 (by rw [chDs_ok]; exact f2) (by rw [chD_ok]; exact g1) hu2 (fin _ ?_)
          rw [any_toP] <;> rfl
      · cases neg
        · exact SeqAt.in_tuple_reads r2 r1 (by rw [chDs_ok]; exact f2) (by rw [chD_ok]; exact g1) hu2 (fin _ (any_toP _))
        · refine SeqAt.notIn_tuple_reads r2 r1 (by rw [chDs_ok]; exact f2) (by rw [chD_ok]; exact g1) hu2 (fin _ ?_)
          rw [any_toP] <;> rfl
  cases b with
  | str b =>
    cases a with
    | str a =>
      cases rb.str
      cases ra.str
      cases neg with
      | true =>
        cases a with
        | nil =>
          cases Option.some.inj e
          exact L2.op_notIn_str pins s σ H _ _ v u Q I rx ry ⟨_, _, rfl, rfl, q _ _ (.old fun _ => .mbl _)⟩
        | cons c r =>
          cases r with
          | nil =>
            cases Option.some.inj e
            exact op_notIn_sign pins s σ H _ _ v u Q I rx ry ⟨c, mkS b, rfl, rfl, q _ _ (.old fun _ => .mbl _)⟩
          | cons c2 r =>
            cases Option.some.inj e
            exact L2.op_notIn_str pins s σ H _ _ v u Q I rx ry ⟨_, _, rfl, rfl, q _ _ (.old fun _ => .mbl _)⟩
      | false =>
        cases a with
        | nil =>
          cases Option.some.inj e
          exact op_in_str pins s σ H _ _ v u Q I rx ry ⟨_, _, rfl, rfl, q _ _ (.old fun _ => .mbl _)⟩
        | cons c r =>
          cases r with
          | nil =>
            cases Option.some.inj e
            exact op_in_sign pins s σ H _ _ v u Q I rx ry ⟨c, mkS b, rfl, rfl, q _ _ (.old fun _ => .mbl _)⟩
          | cons c2 r =>
            cases Option.some.inj e
            exact op_in_str pins s σ H _ _ v u Q I rx ry ⟨_, _, rfl, rfl, q _ _ (.old fun _ => .mbl _)⟩
    | _ => cases e
  | lst ys =>
    obtain ⟨p, xs, e1, hp, rp⟩ := (rb.le l).lst
    exact seq p xs ys (.inl hp) rp e e1 (rb.le l) (.inl rfl)
  | tup ys =>
    obtain ⟨p, xs, e1, hp, rp⟩ := (rb.le l).tup
    exact seq p xs ys (.inr hp) rp e e1 (rb.le l) (.inr rfl)
  | _ => cases e
/-- every comparison -/
theorem r2_cmp (hu : X.A.units + 64 < cLine) (op : CmpOp) : OpR X (compareOp op) (fun x y H Q => ∃ a b k, opCmp op a b = some k ∧ R2D X.K true a b (.bl k) x y H Q) := by
  cases op
  case Eq => exact r2_eq hu
  case NotEq => exact r2_ne hu
  case Lt => exact r2_lt hu
  case Gt => exact r2_gt hu
  case LtE => exact r2_le hu
  case GtE => exact r2_ge hu
  case In => exact in_any (neg := false) hu
  case NotIn =>
    intro pins s σ H x y v u Q I rx ry h
    obtain ⟨a, b, k, e, z⟩ := h
    obtain ⟨k', e1, rfl⟩ := Option.map_eq_some_iff.mp e
    exact in_any (neg := true) hu pins s σ H x y v u Q I rx ry ⟨a, b, k', e1, z⟩
  all_goals
    intro pins s σ H x y v u Q I rx ry h
    obtain ⟨a, b, k, e, _⟩ := h
    cases e
theorem r2_is (neg : Bool) (b : D) : OpR X (compareOp (if neg = true then .IsNot else .Is)) (fun x y H Q => ∃ a k, isKD a b = some k ∧ R2D X.K true a b (.bl (if neg = true then !k else k)) x y H Q) := by
  intro pins s σ H x y v u Q I rx ry h
  obtain ⟨a, k, e, F, l, ra, rb, q⟩ := h
  cases b with
  | non =>
    cases rb.non
    have hx : decide (x = .non) = k := by
      cases ra <;> first | (cases Option.some.inj e; rfl) | (cases Option.some.inj e; exact decide_eq_false (by simp))
    cases neg
    · refine op_isN pins s σ H _ _ v u Q I rx ry ⟨rfl, ?_⟩
      rw [hx]
      exact q _ _ (.old fun _ => .mbl _)
    · refine op_notN pins s σ H _ _ v u Q I rx ry ⟨rfl, ?_⟩
      rw [hx]
      exact q _ _ (.old fun _ => .mbl _)
  | bl b =>
    cases rb.bl
    cases a with
    | bl c =>
      cases ra.bl
      cases Option.some.inj e
      cases neg
      · exact op_isBl pins s σ H _ _ v u Q I rx ry ⟨_, _, rfl, rfl, q _ _ (.old fun _ => .mbl _)⟩
      · exact op_notBl pins s σ H _ _ v u Q I rx ry ⟨_, _, rfl, rfl, q _ _ (.old fun _ => .mbl _)⟩
    | _ => cases e
  | _ => cases a <;> cases e
/-- truth -/
theorem tru_of {d : D} {k : Bool} (h : Rp K F x d) (l : Le F H) (e : truD d = some k) : TruV K x H k := by
  cases d with
  | non => cases h.non; cases Option.some.inj e; rfl
  | bl b => cases h.bl; cases Option.some.inj e; rfl
  | int i => cases h.int; cases Option.some.inj e; rfl
  | str z =>
    cases h.str
    obtain ⟨h1, rfl⟩ := gd_some e
    refine ⟨by rw [mkS_len]; exact h1, ?_⟩
    rw [mkS_len]
    cases z with
    | nil => rfl
    | cons c r => simp; omega
  | lst xs =>
    obtain ⟨p, vs, rfl, hp, rp⟩ := h.lst
    cases Option.some.inj e
    refine .inl ⟨vs, SqL.of (l _ _ hp), ?_⟩
    have := rp.nil_iff
    cases vs <;> cases xs <;> simp at this ⊢
  | tup xs =>
    obtain ⟨p, vs, rfl, hp, rp⟩ := h.tup
    cases Option.some.inj e
    refine .inr (.inl ⟨vs, SqT.le l hp, ?_⟩)
    have := rp.nil_iff
    cases vs <;> cases xs <;> simp at this ⊢
/-! ### subscripts, slices -/
theorem Rps.at_ {vs : List V} {ds : List D} {i : Int} {d : D} (h : Rps K F vs ds) (e : atI ds i = some d) : ∃ v, atI vs i = some v ∧ Rp K F v d := by
  unfold atI at e ⊢
  rw [h.length]
  cases q : ixN ds.length i with
  | none => rw [q] at e; cases e
  | some j =>
    rw [q] at e
    exact h.get (i := j) e
theorem r2_ix : IxR X (fun x y H Q => ∃ a b d, opSub a b = some d ∧ R2D X.K false a b d x y H Q) := by
  intro value slice pins s σ H x y v u Q I rx ry h hs
  obtain ⟨a, b, d, e, F, l, ra, rb, q⟩ := h
  cases a <;> cases b <;> first | (cases e; done) | skip
  · rename_i z i
    cases ra.str
    cases rb.int
    have e : (if z.length ≤ sizeLine then (atI z i).map fun c => D.str [c] else none) = some d := e
    split at e
    · obtain ⟨c, e1, rfl⟩ := Option.map_eq_some_iff.mp e
      exact ix_str value slice pins s σ H _ _ v u Q I rx ry ⟨mkS z, i, c, rfl, rfl, by rw [mkS_len]; assumption, e1, q _ _ (.old fun _ => .mstr _)⟩ hs
    · cases e
  · obtain ⟨p, vs, rfl, hp, rp⟩ := ra.lst
    cases rb.int
    obtain ⟨w, e1, r1⟩ := rp.at_ e
    exact ix_list value slice pins s σ H _ _ v u Q I rx ry ⟨p, vs, _, w, rfl, rfl, SqL.of (l _ _ hp), e1, q _ _ (.inl ⟨rfl, (fun z => by cases z), fun F' l' => r1.le l'⟩)⟩ hs
  · obtain ⟨p, vs, rfl, hp, rp⟩ := ra.tup
    cases rb.int
    obtain ⟨w, e1, r1⟩ := rp.at_ e
    exact ix_tup value slice pins s σ H _ _ v u Q I rx ry ⟨p, vs, _, w, rfl, rfl, SqT.le l hp, e1, q _ _ (.inl ⟨rfl, (fun z => by cases z), fun F' l' => r1.le l'⟩)⟩ hs
theorem cutS_eq (z : List Nat) (lo hi : Option Int) : cutS (mkS z) lo hi = mkS (cutL z lo hi) := by
  apply TL.ext_tl
  unfold cutS cutL
  simp [TL.tl, mkS_len, Str.length]
theorem r2_sl : SlR X (fun x lo hi H Q => ∃ a d, opSl a lo hi = some d ∧ R1D X.K true a d x H Q) := by
  intro pins s σ H x v vl vu lo hi sl Q I rx hs pl pu h
  obtain ⟨a, d, e, F, l, ra, q⟩ := h
  cases a <;> first | (cases e; done) | skip
  · cases ra.str
    obtain ⟨hz, rfl⟩ := gd_some e
    refine sl_str pins s σ H _ v vl vu lo hi sl Q I rx hs pl pu ⟨_, rfl, by rw [mkS_len]; exact hz, ?_⟩
    rw [cutS_eq]
    exact q _ _ (.old fun _ => .mstr _)
  · obtain ⟨p, vs, rfl, hp, rp⟩ := ra.lst
    cases Option.some.inj e
    exact sl_list pins s σ H _ v vl vu lo hi sl Q I rx hs pl pu ⟨p, vs, rfl, SqL.of (l _ _ hp), fun n hn => q _ _ (.inr (.inl ⟨n, _, _, rfl, rfl, hn, rfl, rp.cut⟩))⟩
  · obtain ⟨p, vs, rfl, hp, rp⟩ := ra.tup
    cases Option.some.inj e
    rename_i ds
    refine sl_tupA pins s σ H _ v vl vu lo hi sl Q I rx hs pl pu ⟨p, vs, rfl, SqT.le l hp, fun z => ?_, fun z n hn => ?_⟩
    · refine q _ _ (.inl ⟨rfl, (fun _ ds e => by simp at e), fun F' l' => ?_⟩)
      have e1 : cutL ds lo hi = ds := by
        unfold cutL
        rw [rp.length] at z
        rw [z.1, z.2]
        simp
      rw [e1]
      exact .mkT (SqT.le l' hp) (rp.le l')
    · exact q _ _ (.inr (.inr ⟨n, _, _, rfl, rfl, hn, rfl, rp.cut⟩))
end
end Pu
set_option Elab.async false
set_option linter.all false
set_option maxRecDepth 100000
namespace Pu
open PySem PySem.Spec PyProof.Rows L2

section
variable {X : Cx} {K : PySem.W.Frag} {F H : Hp} {a b d : D} {x y v : V}
/-! ### a text read from its end -/
def tRevS (te : TE) : TE := fun σ H Q => te σ H fun x H1 => ∃ z : List Nat, x = .str (mkS z) ∧ z.length ≤ sizeLine ∧ Q (.str (mkS z.reverse)) H1
theorem rev_txt (z : List Nat) (t : Tok) : Txt.sliceBy (mkS z) none none (-1, t) = mkS z.reverse := by
  apply TL.ext_tl
  show (Txt.sliceBy (mkS z) none none (-1, t)).cps.toList = z.reverse
  rw [PyProof.Rows.step_rev_list, mkS_len]
  apply List.ext_getElem
  · simp
  · intro i h1 h2
    simp only [List.length_map, List.length_range] at h1
    have hb : z.length - 1 - i < z.length := by omega
    simp only [List.getElem_map, List.getElem_range, List.getElem_reverse]
    simp [Array.getD, hb]
theorem pe_revS {e : Expr} {te : TE} {k : Nat} {p1 p2 p3 pos : Pos} (he : PE X e te) :
    PE X (.Subscript e (.Slice none none (some (.UnaryOp .USub (.Constant (.int 1) k p1) p2)) p3) pos) (tRevS te) := by
  refine ⟨fun pins s σ H Q I h => ?_⟩
  refine Subscript_ (thn (he.run pins s σ H _ I h) fun v s1 ⟨x, H1, I1, r1, z, ez, hz, q⟩ => ?_)
  subst ez
  obtain ⟨t, rfl⟩ := r1
  have step : PO X (some (.UnaryOp .USub (.Constant (.int 1) k p1) p2)) (tPart (tUn (rU fun i => .int (-i)) (tC (.int 1)))) :=
    po_some (pe_un un_neg pe_int)
  refine wpAny_Slice (thn (po_none.run pins s1 σ H1 (fun o H2 => o = none ∧ H2 = H1) I1 ⟨rfl, rfl⟩)
    fun vl s2 ⟨l, H2, I2, pl, el, e2⟩ => ?_)
  subst el e2
  refine thn (po_none.run pins s2 σ H2 (fun o H3 => o = none ∧ H3 = H2) I2 ⟨rfl, rfl⟩)
    fun vu s3 ⟨u, H3, I3, pu, eu, e3⟩ => ?_
  subst eu e3
  refine thn (step.run pins s3 σ H3 (fun o H4 => o = some (-1) ∧ H4 = H3) I3 ⟨1, rfl, -1, rfl, rfl, rfl⟩)
    fun vs s4 ⟨o, H4, I4, ps, eo, e4⟩ => ?_
  subst eo e4
  obtain ⟨l1, rfl, e1⟩ := IsPart.raw pl
  obtain ⟨u1, rfl, e2⟩ := IsPart.raw pu
  obtain ⟨k1, rfl, e3⟩ := IsPart.raw ps
  obtain rfl : l1 = none := by cases l1 <;> simp at e1 ⊢
  obtain rfl : u1 = none := by cases u1 <;> simp at e2 ⊢
  obtain ⟨t1, rfl⟩ : ∃ t1, k1 = some (-1, t1) := by
    cases k1 with
    | none => simp at e3
    | some p => obtain ⟨p, t1⟩ := p; simp at e3; exact ⟨t1, by rw [e3]⟩
  have I5 : Inv X pins σ H4 { s4 with heap := s4.heap.push { cls := .type "slice", data := .fields #[.none, .none, .int (-1) t1] } } :=
    I4.kept (t' := s4.toks) fun b ob q => Heap.get?_push_of_some _ q
  have hl : (Txt.sliceBy (mkS z) none none (-1, t1)).length ≤ sizeLine := by rw [rev_txt, mkS_len, List.length_reverse]; exact hz
  show wpAny _ _ (subscriptTail e (.Slice none none (some (.UnaryOp .USub (.Constant (.int 1) k p1) p2)) p3) (.str (mkS z) t) (.ref s4.heap.objs.size)) _ _
    { s4 with heap := s4.heap.push { cls := .type "slice", data := .fields #[.none, .none, .int (-1) t1] } }
  refine tail_any (typeIs_str _ _ _) PySem.F.slot_str_getitem.lookup (ops := [.ref s4.heap.objs.size, .str (mkS z) t])
    (wpAny_getItem_str_slice (l := none) (u := none) (st := some (-1, t1)) ⟨_, Heap.get?_push_size _ rfl, rfl, rfl⟩ rfl ?_) (by with_unfolding_all rfl)
  have hno : ¬ (((((some ((-1 : Int), t1)).map (·.1)).getD 1 == 1 && (slicePicked (mkS z) none none (some (-1, t1))).length == (mkS z).length)) = true) := by
    intro w
    rw [Bool.and_eq_true] at w
    exact absurd (show ((-1 : Int) == 1) = true from w.1) (by decide)
  unfold Txt.sliceBy at hl
  rw [if_neg hno] at hl
  unfold sliceMade
  rw [if_neg hno]
  have e := rev_txt z t1
  unfold Txt.sliceBy at e
  rw [if_neg hno] at e
  exact ⟨hl, .str (mkS z.reverse), H4, I5.tok _, ⟨s4.toks, congrArg (fun x => Value.str x s4.toks) e⟩, q⟩

/-! ### built-in functions -/
theorem ints_of : ∀ {ds : List D} {ns : List Int} {vs : List V}, intsOf ds = some ns → Rps K F vs ds → vs = ns.map V.int
  | [], ns, vs, e, r => by cases Option.some.inj e; rw [r.inv_nil]; rfl
  | .int i :: ds, ns, vs, e, r => by
    obtain ⟨ms, e1, rfl⟩ := Option.map_eq_some_iff.mp e
    obtain ⟨x, xs, rfl, h1, h2⟩ := r.inv_cons
    rw [h1.int, ints_of e1 h2, List.map_cons]
  | .non :: ds, _, _, e, _ => by cases e
  | .bl _ :: ds, _, _, e, _ => by cases e
  | .str _ :: ds, _, _, e, _ => by cases e
  | .lst _ :: ds, _, _, e, _ => by cases e
  | .tup _ :: ds, _, _, e, _ => by cases e
theorem bols_of : ∀ {ds : List D} {ns : List Bool} {vs : List V}, bolsOf ds = some ns → Rps K F vs ds → vs = ns.map V.bl
  | [], ns, vs, e, r => by cases Option.some.inj e; rw [r.inv_nil]; rfl
  | .bl i :: ds, ns, vs, e, r => by
    obtain ⟨ms, e1, rfl⟩ := Option.map_eq_some_iff.mp e
    obtain ⟨x, xs, rfl, h1, h2⟩ := r.inv_cons
    rw [h1.bl, bols_of e1 h2, List.map_cons]
  | .non :: ds, _, _, e, _ => by cases e
  | .int _ :: ds, _, _, e, _ => by cases e
  | .str _ :: ds, _, _, e, _ => by cases e
  | .lst _ :: ds, _, _, e, _ => by cases e
  | .tup _ :: ds, _, _, e, _ => by cases e
theorem strs_of : ∀ {ds : List D} {ns : List (List Nat)} {vs : List V}, strsOf ds = some ns → Rps K F vs ds → vs = (ns.map mkS).map V.str
  | [], ns, vs, e, r => by cases Option.some.inj e; rw [r.inv_nil]; rfl
  | .str i :: ds, ns, vs, e, r => by
    obtain ⟨ms, e1, rfl⟩ := Option.map_eq_some_iff.mp e
    obtain ⟨x, xs, rfl, h1, h2⟩ := r.inv_cons
    rw [h1.str, strs_of e1 h2, List.map_cons, List.map_cons]
  | .non :: ds, _, _, e, _ => by cases e
  | .int _ :: ds, _, _, e, _ => by cases e
  | .bl _ :: ds, _, _, e, _ => by cases e
  | .lst _ :: ds, _, _, e, _ => by cases e
  | .tup _ :: ds, _, _, e, _ => by cases e
theorem fold_max : ∀ (r : List Int) (x : Int), (r.foldl (fun a b => if b > a then b else a) x) ∈ x :: r ∧ ∀ y ∈ x :: r, y ≤ r.foldl (fun a b => if b > a then b else a) x
  | [], x => by simp
  | z :: r, x => by
    obtain ⟨h1, h2⟩ := fold_max r (if z > x then z else x)
    rw [List.foldl_cons]
    generalize (r.foldl (fun a b => if b > a then b else a) (if z > x then z else x)) = m at h1 h2
    have h3 := h2 _ List.mem_cons_self
    refine ⟨?_, fun y hy => ?_⟩
    · rcases List.mem_cons.mp h1 with h | h
      · subst h; split <;> simp
      · simp [h]
    · rcases List.mem_cons.mp hy with rfl | hy
      · split at h3 <;> omega
      · rcases List.mem_cons.mp hy with rfl | hy
        · split at h3 <;> omega
        · exact h2 y (List.mem_cons_of_mem _ hy)
theorem fold_min : ∀ (r : List Int) (x : Int), (r.foldl (fun a b => if b < a then b else a) x) ∈ x :: r ∧ ∀ y ∈ x :: r, r.foldl (fun a b => if b < a then b else a) x ≤ y
  | [], x => by simp
  | z :: r, x => by
    obtain ⟨h1, h2⟩ := fold_min r (if z < x then z else x)
    rw [List.foldl_cons]
    generalize (r.foldl (fun a b => if b < a then b else a) (if z < x then z else x)) = m at h1 h2
    have h3 := h2 _ List.mem_cons_self
    refine ⟨?_, fun y hy => ?_⟩
    · rcases List.mem_cons.mp h1 with h | h
      · subst h; split <;> simp
      · simp [h]
    · rcases List.mem_cons.mp hy with rfl | hy
      · split at h3 <;> omega
      · rcases List.mem_cons.mp hy with rfl | hy
        · split at h3 <;> omega
        · exact h2 y (List.mem_cons_of_mem _ hy)
theorem maxI_spec {ns : List Int} {m : Int} (h : maxI ns = some m) : m ∈ ns ∧ ∀ y ∈ ns, y ≤ m := by
  cases ns with
  | nil => cases h
  | cons x r => cases Option.some.inj h; exact fold_max r x
theorem minI_spec {ns : List Int} {m : Int} (h : minI ns = some m) : m ∈ ns ∧ ∀ y ∈ ns, m ≤ y := by
  cases ns with
  | nil => cases h
  | cons x r => cases Option.some.inj h; exact fold_min r x
theorem each_rps {h : Heap} : ∀ {vs : List V} {us : List Value} {ds : List D}, Vals vs us → Rps K F vs ds → (∀ (v : V) (u : Value) (d : D), Rp K F v d → RelV v u → ∃ as, Reads h u (toP d) as) →
    PySem.W.EachIs (fun (u : Value) (d : D) => (∃ v, RelV v u ∧ Rp K F v d) ∧ ∃ as, Reads h u (toP d) as) us ds
  | vs, us, [], hv, r, hr => by
    cases r.inv_nil
    cases hv
    exact .nil
  | vs, us, d :: ds, hv, r, hr => by
    obtain ⟨x, xs, rfl, h1, h2⟩ := r.inv_cons
    cases hv with
    | cons e1 e2 => exact .cons ⟨⟨x, e1, h1⟩, hr x _ d h1 e1⟩ (each_rps e2 h2 hr)
theorem rps_each : ∀ {us : List Value} {ds : List D}, PySem.W.EachIs (fun (u : Value) (d : D) => ∃ v, RelV v u ∧ Rp K F v d) us ds → ∃ vs, Vals vs us ∧ Rps K F vs ds
  | _, _, .nil => ⟨[], .nil, .nil⟩
  | _, _, .cons ⟨v, r, h⟩ t => by
    obtain ⟨vs, r2, h2⟩ := rps_each t
    exact ⟨v :: vs, .cons r r2, .cons h h2⟩
theorem depDs_le : ∀ {ds : List D} {n : Nat}, depDs ds ≤ n → ∀ d ∈ ds, depD d ≤ n
  | d :: ds, n, h, e, he => by
    have h1 : depD d ≤ depDs (d :: ds) := Nat.le_max_left _ _
    have h2 : depDs ds ≤ depDs (d :: ds) := Nat.le_max_right _ _
    rcases List.mem_cons.mp he with rfl | he
    · omega
    · exact depDs_le (by omega) e he
theorem sortable_ok {ds : List D} (h : sortable ds = true) : PySem.W.Sortable (ds.map toP) := by
  unfold sortable at h
  rw [Bool.or_eq_true] at h
  rcases h with h | h
  · refine .inl fun p hp => ?_
    obtain ⟨d, hd, rfl⟩ := List.mem_map.mp hp
    have q := List.all_eq_true.mp h d hd
    cases d <;> first | (cases q; done) | skip
    rename_i l
    cases l with
    | nil => cases q
    | cons z r => exact ⟨_, _, rfl⟩
  · refine .inr fun p hp => ?_
    obtain ⟨d, hd, rfl⟩ := List.mem_map.mp hp
    have q := List.all_eq_true.mp h d hd
    cases d <;> first | (cases q; done) | (refine ⟨?_, ?_⟩ <;> simp [toP])
theorem alike_ok {ds : List D} (h : allAlike ds = true) : PySem.W.AllAlike (ds.map toP) := by
  intro p hp p' hp'
  obtain ⟨d, hd, rfl⟩ := List.mem_map.mp hp
  obtain ⟨d', hd', rfl⟩ := List.mem_map.mp hp'
  exact List.all_eq_true.mp (List.all_eq_true.mp h d hd) d' hd'
theorem sorted_ok (hu : X.A.units + 64 < cLine) : CallR X (.builtin "sorted") (fun xs H Q => ∃ ds : List D, (allAlike ds = true ∧ sortable ds = true ∧ depDs ds ≤ 32) ∧ RND X.K true [.lst ds] (.lst (sortD ds)) xs H Q) := by
  intro pins s σ H xs us Q I r h
  obtain ⟨ds, ⟨h1, h2, h3⟩, F, l, rs, q⟩ := h
  obtain ⟨x, ys, rfl, ra, rz⟩ := rs.inv_cons
  cases rz.inv_nil
  obtain ⟨p, vs, rfl, hp, rp⟩ := ra.lst
  obtain ⟨u, rfl, ru⟩ := vals1 r
  cases ru
  obtain ⟨its, rv, hl, hz⟩ := I.list (SqL.of (l _ _ hp))
  have e := each_rps (h := s.heap) rv (rp.le l) fun v u d r1 r2 => r1.reads I r2
  refine PySem.W.sorted_data (bs := ds) (enc := toP) (R := fun (u : Value) (d : D) => ∃ v, RelV v u ∧ Rp X.K F v d) hl.isList
    ((each_rps (h := s.heap) rv rp fun v u d r1 r2 => (r1.le l).reads I r2).mono fun _ _ z => z.1) (e.mono fun _ _ z => z.2) (alike_ok h1) (sortable_ok h2) (by rw [← rp.length]; exact hz)
    (fun d hd => by rw [depD_ok]; have := depDs_le h3 d hd; omega) fun out ho he => ?_
  obtain ⟨ws, w1, w2⟩ := rps_each he
  obtain ⟨ep, he'⟩ := PyProof.Rows.sortedAll_at s.heap its out.toArray
  have hlen : ws.length ≤ sizeLine := by rw [w1.length, ho, ← rp.length]; exact hz
  refine ⟨.ref _, upd H (s.heap.objs.size + 1) (.lst ws), I.laid (t' := s.toks) (fun _ _ => PyProof.Rows.sortedAll_old) (Nat.le_succ _) ⟨hlen, out, ep, w1, he'⟩, rfl, ?_⟩
  exact q _ _ (.inr (.inl ⟨_, ws, _, rfl, rfl, I.hok.fresh (Nat.le_succ _), rfl, w2⟩))
end
end Pu
set_option Elab.async false
set_option linter.all false
set_option maxRecDepth 100000
namespace HT
open PySem PySem.Spec PyProof.Rows
section
variable {prog : Program} {w : World} {A : Around} {E : Value → Shared → Prop} {s : Shared}
theorem adjust_rev (n : Nat) : Builtin.Slice.sliceAdjust none none (-1) (n : Int) = ((n : Int) - 1, -1) := by
  unfold Builtin.Slice.sliceAdjust
  simp
theorem places_rev (n : Nat) : Builtin.Slice.slicePlaces ((n : Int) - 1) (-1) (-1) = n := by
  unfold Builtin.Slice.slicePlaces
  have h1 : ¬ ((-1 : Int) > 0) := by omega
  simp only [h1, if_false]
  split
  · first | omega | (simp; done) | (simp; omega)
  · omega
theorem applied_rev {sl : Addr} {t1 : Tok} {n : Nat} {Q : Int × Int × Nat → Shared → Prop} (hs : s.heap.IsSliceOf sl .none .none (.int (-1) t1)) (h : Q ((n : Int) - 1, -1, n) s) : wpAny (model prog w) A (Builtin.Slice.sliceApplied (.ref sl) (pure (n : Int))) Q E s := by
  obtain ⟨os, hos, hcs, hds⟩ := id hs
  unfold Builtin.Slice.sliceApplied Builtin.Slice.sliceFields
  refine wpAny_bind (wpAny_bind (wpAny_field hos hds (x := .none) rfl (wpAny_bind (wpAny_field hos hds (x := .none) rfl (wpAny_bind (wpAny_field hos hds (x := .int (-1) t1) rfl (wpAny_pure ?_)))))))
  refine wpAny_bind (slicePart_int ?_)
  show wpAny _ _ (if ((-1 : Int) == 0) = true then _ else _) _ _ s
  rw [if_neg (by decide)]
  refine wpAny_bind (slicePart_none (wpAny_bind (slicePart_none (wpAny_bind (wpAny_pure ?_)))))
  show wpAny _ _ (match Builtin.Slice.sliceAdjust none none (-1) (n : Int) with | (lo, hi) => pure (lo, (-1 : Int), Builtin.Slice.slicePlaces lo hi (-1))) _ _ s
  rw [adjust_rev n]
  show wpAny _ _ (pure ((n : Int) - 1, (-1 : Int), Builtin.Slice.slicePlaces ((n : Int) - 1) (-1) (-1))) _ _ s
  rw [places_rev]
  exact wpAny_pure h
theorem pick_rev (xs : Array Value) : ((List.range xs.size).filterMap fun (m : Nat) => xs[((xs.size : Int) - 1 + (m : Int) * (-1)).toNat]?).toArray = xs.toList.reverse.toArray := by
  have e : ∀ l : List Nat, (∀ m ∈ l, m < xs.size) → (l.filterMap fun (m : Nat) => xs[((xs.size : Int) - 1 + (m : Int) * (-1)).toNat]?) = l.map fun m => xs.toList.reverse.getD m .none := by
    intro l
    induction l with
    | nil => intro _; rfl
    | cons a r ih =>
      intro h
      have ha : a < xs.size := h a List.mem_cons_self
      have i1 : ((xs.size : Int) - 1 + (a : Int) * (-1)).toNat = xs.size - 1 - a := by omega
      have i2 : xs.size - 1 - a < xs.size := by omega
      have e1 : xs[((xs.size : Int) - 1 + (a : Int) * (-1)).toNat]? = some (xs.toList.reverse.getD a .none) := by
        rw [i1, Array.getElem?_eq_getElem i2, List.getD_eq_getElem?_getD, List.getElem?_reverse (by simpa using ha)]
        simp [i2]
      rw [List.filterMap_cons_some (f := fun (m : Nat) => xs[((xs.size : Int) - 1 + (m : Int) * (-1)).toNat]?) e1, List.map_cons, ih fun m hm => h m (List.mem_cons_of_mem _ hm)]
  rw [e _ fun m hm => List.mem_range.mp hm]
  congr 1
  apply List.ext_getElem
  · simp
  · intro i h1 h2
    simp only [List.length_map, List.length_range] at h1
    simp [List.getD_eq_getElem?_getD, List.getElem?_eq_getElem (show i < xs.toList.reverse.length by simpa using h1)]
theorem getItem_tuple_rev {t sl : Addr} {items : Array Value} {t1 : Tok} {Q : Value → Shared → Prop} (ht : IsTup s.heap t items) (hs : s.heap.IsSliceOf sl .none .none (.int (-1) t1))
    (h : Q (.ref s.heap.objs.size) { s with heap := s.heap.push { cls := .type "tuple", data := .seq items.toList.reverse.toArray } })
    (hsz : items.size ≤ sizeLine) : wpAny (model prog w) A (getItem (.ref t) (.ref sl)) Q E s := by
  have htake : sizeOk (.seq items.toList.reverse.toArray) := by
    show items.toList.reverse.toArray.size ≤ sizeLine
    simpa using hsz
  obtain ⟨os, hos, hcs, hds⟩ := id hs
  have hTs : s.TypeIs (.ref sl) "slice" := ⟨os, hos, hcs⟩
  unfold getItem
  try with_reducible refine wpAny_holding ?_
  first | refine wpAny_bind (wpAny_pure ?_) | skip
  refine wpAny_bind (wpAny_sequenceKey ht.typeIs (by decide) ?_)
  refine wpAny_bind (wpAny_callSpecial?_slot (name := Str.ofString "__getitem__") ht.typeIs PyProof.Rows.slot_tuple_getitem
    (wpAny_call_entry PyProof.Rows.slot_tuple_getitem ht.typeIs entry_tuple_getitem ?_ (args_tuple_getitem _ _)))
  show wpAny _ _ (Builtin.Tuple.tupleItemsOf (.ref t) >>= _) _ _ s
  refine wpAny_bind (tupleItemsOf_ ht ?_)
  refine wpAny_bind (wpAny_typeOf hTs ?_)
  rw [if_pos (by decide)]
  refine wpAny_bind (applied_rev hs ?_)
  have hno : ¬ ((((items.size : Int) - 1) == 0 && (-1 : Int) == 1 && items.size == items.size) = true) := by
    intro q
    rw [Bool.and_eq_true, Bool.and_eq_true] at q
    exact absurd q.1.2 (by decide)
  show wpAny _ _ (if (((items.size : Int) - 1) == 0 && (-1 : Int) == 1 && items.size == items.size) = true then _ else _) _ _ s
  rw [if_neg hno, pick_rev]
  first
    | exact wpAny_bind (m := Builtin.Tuple.tupleExact _) (wpAny_newObj_type (wpAny_pure ⟨_, rfl, wpAny_pure h⟩) htake)
    | exact wpAny_bind (m := Builtin.Tuple.tupleExact _) (wpAny_newObj_type (wpAny_bind (wpAny_pure (wpAny_pure ⟨_, rfl, wpAny_pure h⟩))) htake)
    | exact wpAny_bind (wpAny_bind (m := Builtin.Tuple.tupleExact _) (wpAny_newObj_type (wpAny_pure (wpAny_pure ⟨_, rfl, wpAny_pure h⟩)) htake))
    | exact wpAny_bind (wpAny_bind (m := Builtin.Tuple.tupleExact _) (wpAny_newObj_type (wpAny_pure ⟨_, rfl, wpAny_pure h⟩) htake))
end
end HT
namespace Pu
open PySem PySem.Spec PyProof.Rows L2
section
variable {X : Cx}
def tRevT (K : PySem.W.Frag) (te : TE) : TE := fun σ H Q => te σ H fun x H1 => ∃ a xs, x = .ref a ∧ SqT K H1 a xs ∧ ∀ p, H1 p = none → Q (.ref p) (upd H1 p (.tup xs.reverse))
theorem pe_revT {e : Expr} {te : TE} {k : Nat} {p1 p2 p3 pos : Pos} (he : PE X e te) : PE X (.Subscript e (.Slice none none (some (.UnaryOp .USub (.Constant (.int 1) k p1) p2)) p3) pos) (tRevT X.K te) := by
  refine ⟨fun pins s σ H Q I h => ?_⟩
  refine Subscript_ (thn (he.run pins s σ H _ I h) fun v s1 ⟨x, H1, I1, r1, q1⟩ => ?_)
  obtain ⟨a, xs, ex, hx, q⟩ := q1
  subst ex
  cases r1
  have hst : PO X (some (.UnaryOp .USub (.Constant (.int 1) k p1) p2)) (tPart (tUn (rU fun i => .int (-i)) (tC (.int 1)))) := po_some (pe_un un_neg pe_int)
  refine wpAny_Slice (thn (po_none.run pins s1 σ H1 (fun o H2 => o = none ∧ H2 = H1) I1 ⟨rfl, rfl⟩) fun vl s2 ⟨l, H2, I2, pl, el, e2⟩ => ?_)
  subst el e2
  refine thn (po_none.run pins s2 σ H2 (fun o H3 => o = none ∧ H3 = H2) I2 ⟨rfl, rfl⟩) fun vu s3 ⟨u, H3, I3, pu, eu, e3⟩ => ?_
  subst eu e3
  refine thn (hst.run pins s3 σ H3 (fun o H4 => o = some (-1) ∧ H4 = H3) I3 ⟨1, rfl, -1, rfl, rfl, rfl⟩) fun vs s4 ⟨o, H4, I4, ps, eo, e4⟩ => ?_
  subst eo e4
  cases pl
  cases pu
  cases ps with
  | int _ t1 =>
  have I5 : Inv X pins σ H4 { s4 with heap := s4.heap.push { cls := .type "slice", data := .fields #[.none, .none, .int (-1) t1] } } := I4.kept (t' := s4.toks) fun b ob q => Heap.get?_push_of_some _ q
  obtain ⟨its, r, ht, hz⟩ := I5.tuple hx
  have hlen := r.length
  show wpAny (model X.prog X.w) X.A (subscriptTail e (.Slice none none (some (.UnaryOp .USub (.Constant (.int 1) k p1) p2)) p3) (.ref a) (.ref s4.heap.objs.size)) (EP X pins σ Q) X.xe { s4 with heap := s4.heap.push { cls := .type "slice", data := .fields #[.none, .none, .int (-1) t1] } }
  refine tail_any (ops := [.ref a, .ref s4.heap.objs.size]) ht.typeIs (PyProof.Rows.slot_tuple_getitem.lookup) ?_ (by with_unfolding_all rfl)
  refine HT.getItem_tuple_rev ht (Heap.IsSliceOf.new ..) ?_ (by rw [List.size_toArray]; omega)
  refine ⟨.ref _, _, I5.laid (t' := s4.toks) (o := .tup xs.reverse) (fun b ob q => Heap.get?_push_of_some _ q) (Nat.le_refl _) ?_, rfl, q _ (I5.hok.fresh (Nat.le_refl _))⟩
  exact ⟨by rw [List.length_reverse]; exact hz, _, r.reverse, IsTup.new _ _⟩
end
end Pu
set_option Elab.async false
set_option linter.all false
set_option maxRecDepth 100000
set_option maxHeartbeats 2000000
namespace Pu
open PySem PySem.Spec PyProof.Rows L2

/-! ### sets of values that a scan tells apart -/
section
variable {P : Program} {w : World} {KT : Type} [DecidableEq KT] (kd : KeyKind P w KT) (key : Value → KT)
/-- an entry is a key's -/
def OkE (e : Int × Value) : Prop := kd.is (key e.2) e.2 = true ∧ e.1 = kd.hash (key e.2) ∧ e.2.scannable = true
/-- the set at a: its members' keys, each once; it can be walked -/
def SetG (h : Heap) (a : Addr) (S : KT → Bool) (n : Nat) : Prop :=
  ∃ o es ep t, h.get? a = some o ∧ o.ExactSet ∧ o.data = .set es ep t ∧ (∀ e ∈ es.toList, OkE kd key e) ∧ (es.toList.map fun e => key e.2).Nodup ∧ (∀ k, S k = true ↔ k ∈ es.toList.map fun e => key e.2) ∧
    es.size < scanBound ∧ t.fits es.size = true ∧ es.size = n ∧ Ris t.place.toList ∧ (w.params.followText "set-order" = true ∨ t.led = true)
variable {kd key} {h h' : Heap} {a : Addr} {S : KT → Bool} {n : Nat} {A : Around} {E : Value → Shared → Prop} {s : Shared}
theorem SetG.keep (R : SetG kd key h a S n) (k : ∀ o, h.get? a = some o → h'.get? a = some o) : SetG kd key h' a S n := by
  obtain ⟨o, es, ep, t, ho, r⟩ := R
  exact ⟨o, es, ep, t, k o ho, r⟩
theorem SetG.same {S' : KT → Bool} (R : SetG kd key h a S n) (e : ∀ k, S' k = S k) : SetG kd key h a S' n := (funext e : S' = S) ▸ R
theorem okE_elems {l : List (Int × Value)} (g : ∀ e ∈ l, OkE kd key e) : ElemsOf kd l := fun e he => ⟨⟨_, (g e he).1, (g e he).2.1⟩, (g e he).2.2⟩
theorem okE_is {e : Int × Value} (g : OkE kd key e) (k : KT) : kd.is k e.2 = true ↔ key e.2 = k := ⟨fun z => kd.inj _ _ _ g.1 z, fun z => z ▸ g.1⟩
theorem okE_mem {l : List (Int × Value)} (g : ∀ e ∈ l, OkE kd key e) (k : KT) : (k ∈ l.map fun e => key e.2) ↔ ∃ e ∈ l, kd.is k e.2 = true := by
  rw [List.mem_map]
  exact ⟨fun ⟨e, he, q⟩ => ⟨e, he, (okE_is (g e he) k).2 q⟩, fun ⟨e, he, q⟩ => ⟨e, he, (okE_is (g e he) k).1 q⟩⟩
theorem setG_tail {g : Bool → Sem Unit} (hg : ∀ (b : Bool) (s₁ : Shared) (Q' : Unit → Shared → Prop), Q' () s₁ → wpAny (model P w) A (g b) Q' E s₁)
    {o : Obj} {es : Array (Int × Value)} {ep : Nat} {t : SetTable} (ho : s.heap.get? a = some o) (hex : o.ExactSet) (hd : o.data = .set es ep t)
    {e1 : Array (Int × Value)} {t2 : SetTable} {S' : KT → Bool} (g1 : ∀ e ∈ e1.toList, OkE kd key e) (nd1 : (e1.toList.map fun e => key e.2).Nodup) (m1 : ∀ k, S' k = true ↔ k ∈ e1.toList.map fun e => key e.2)
    (hb1 : e1.size < scanBound) (hf2 : t2.fits e1.size = true) (hr : Ris t2.place.toList) (hl : w.params.followText "set-order" = true ∨ t2.led = true) {wasDummy : Bool} {R : Option Bool → Shared → Prop}
    (hR : ∀ h', Heap.SameBut a s.heap h' → SetG kd key h' a S' e1.size → R (some true) { s with heap := h' }) :
    wpAny (model P w) A (do
        storeSet a e1 t2
        if (!wasDummy && t2.tooFull) = true then do
            g (relayAll t2 e1 (SetTable.grown e1.size)).2.2
            storeSet a (relayAll t2 e1 (SetTable.grown e1.size)).1 (relayAll t2 e1 (SetTable.grown e1.size)).2.1
            pure (some true)
          else pure (some true)) R E s := by
  refine wpAny_bind (wpAny_storeSet_of ho hd ?_ (fits_of_scanBound hb1))
  have ho1 := store_at (es' := e1) (t' := t2) ho hd
  have sb1 := Heap.SameBut.update s.heap a (Obj.putSet e1 t2)
  split
  · have pm := relayAll_perm t2 e1 (SetTable.grown e1.size)
    have hf3 := relayAll_fits t2 e1 (SetTable.grown e1.size)
    have hr3 := relayAll_ris t2 e1 (SetTable.grown e1.size)
    have hl3 := relayAll_led t2 e1 (SetTable.grown e1.size)
    generalize relayAll t2 e1 (SetTable.grown e1.size) = Z at pm hf3 hr3 hl3 ⊢
    obtain ⟨e2, t3, gave⟩ := Z
    dsimp only at pm hf3 hr3 hl3 ⊢
    have hsz : e2.size = e1.size := by simpa using pm.length_eq
    have hb2 : e2.size < scanBound := hsz ▸ hb1
    refine wpAny_bind (hg _ _ _ (wpAny_bind (wpAny_storeSet_of ho1 rfl ?_ (fits_of_scanBound hb2))))
    have ho2 := store_at (es' := e2) (t' := t3) ho1 rfl
    have pk := pm.map fun e => key e.2
    exact wpAny_pure (hR _ (sb1.trans (Heap.SameBut.update _ a _)) ⟨_, e2, _, t3, ho2, hex, rfl, fun e he => g1 e (pm.mem_iff.mp he), pk.nodup_iff.mpr nd1, fun k => (m1 k).trans pk.mem_iff.symm, hb2, hf3, hsz, hr3, hl.imp id fun z => by rw [hl3]; exact z⟩)
  · exact wpAny_pure (hR _ sb1 ⟨_, e1, _, t2, ho1, hex, rfl, g1, nd1, m1, hb1, hf2, rfl, hr, hl⟩)
theorem setG_put {k : KT} {x : Value} {Q : Bool → Shared → Prop} (hkey : kd.is k x = true) (hx : key x = k) (hsc : x.scannable = true) (R : SetG kd key s.heap a S n) (room : n + 1 < scanBound)
    (hQ : ∀ h', Heap.SameBut a s.heap h' → SetG kd key h' a (fun j => S j || decide (j = k)) (if S k = true then n else n + 1) → Q (!S k) { s with heap := h' }) :
    wpAny (model P w) A (setAddHashed a x (kd.hash k)) Q E s := by
  obtain ⟨o, es, ep, t, ho, hex, hd, g, nd, hm, hb, hf, hn, hr, hl⟩ := R
  have hel : ElemsOf kd es.toList := okE_elems g
  unfold setAddHashed setAddHashedIn
  refine wpAny_holding (wpAny_bind (wpAny_setState_of ho hd hf ?_))
  dsimp only
  rw [byScan_of hsc hb hel]
  simp only [↓reduceIte]
  unfold setAddByScan
  refine wpAny_bind (wpAny_bind (wpAny_rule (wpAny_bind (wpAny_setScan_of hkey ho hd hf hel ?_))))
  cases hfi : es.toList.findIdx? (fun e => kd.is k e.2) with
  | some j =>
    dsimp only
    obtain ⟨hj, pj, _⟩ := List.findIdx?_eq_some_iff_getElem.mp hfi
    have hS : S k = true := (hm k).2 ((okE_mem g k).2 ⟨es.toList[j], List.getElem_mem hj, pj⟩)
    refine wpAny_pure (wpAny_pure ?_)
    have q := hQ s.heap (Heap.SameBut.refl a s.heap) ⟨o, es, ep, t, ho, hex, hd, g, nd, fun i => by
      rw [Bool.or_eq_true, decide_eq_true_eq, ← hm i]
      exact ⟨fun z => z.elim id (fun e => e ▸ hS), .inl⟩, hb, hf, by rw [if_pos hS]; exact hn, hr, hl⟩
    rw [hS] at q
    exact q
  | none =>
    dsimp only
    have hnk : k ∉ es.toList.map fun e => key e.2 := fun z => by
      obtain ⟨e, he, q⟩ := (okE_mem g k).1 z
      have c := List.findIdx?_eq_none_iff.mp hfi e he
      rw [q] at c
      cases c
    have hS : S k = false := Bool.eq_false_iff.mpr fun q => hnk ((hm k).1 q)
    have hgw : ∀ (b : Bool) {s₁ : Shared} {Q' : Unit → Shared → Prop}, Q' () s₁ → wpAny (model P w) A (match b with | true => rule "set.scan.the-table-gave-way" | false => pure ()) Q' E s₁ :=
      fun b s₁ Q' q => by cases b <;> first | exact wpAny_pure q | exact wpAny_rule q
    have pm := layNew_perm t es (kd.hash k) x
    have hf1 := layNew_fits t es (kd.hash k) x
    have hr1 := layNew_ris t es (kd.hash k) x hr
    have hl1 := layNew_led t es (kd.hash k) x
    generalize layNew t es (kd.hash k) x = Z at pm hf1 hr1 hl1 ⊢
    obtain ⟨e1, t1, wasDummy, gave⟩ := Z
    dsimp only at pm hf1 hr1 hl1 ⊢
    rw [Array.toList_push] at pm
    have pc : e1.toList.Perm ((kd.hash k, x) :: es.toList) := pm.trans (List.perm_append_singleton _ _)
    have pk : (e1.toList.map fun e => key e.2).Perm (k :: es.toList.map fun e => key e.2) := by
      have := pc.map fun e : Int × Value => key e.2
      rwa [List.map_cons, hx] at this
    have g1 : ∀ e ∈ e1.toList, OkE kd key e := fun e he => by
      rcases List.mem_cons.mp (pc.mem_iff.mp he) with z | z
      · rw [z]; exact ⟨by rw [hx]; exact hkey, by rw [hx], hsc⟩
      · exact g e z
    have nd1 : (e1.toList.map fun e => key e.2).Nodup := pk.nodup_iff.mpr (List.nodup_cons.mpr ⟨hnk, nd⟩)
    have m1 : ∀ i, (S i || decide (i = k)) = true ↔ i ∈ e1.toList.map fun e => key e.2 := fun i => by
      rw [Bool.or_eq_true, decide_eq_true_eq, hm i, pk.mem_iff, List.mem_cons]
      exact Or.comm
    have hsz : e1.size = n + 1 := by rw [← hn]; simpa using pc.length_eq
    have hb1 : e1.size < scanBound := hsz ▸ room
    have hled : w.params.followText "set-order" = true ∨ t1.led = true := hl.imp id fun z => hl1 ▸ z
    have fin : ∀ h', Heap.SameBut a s.heap h' → SetG kd key h' a (fun j => S j || decide (j = k)) e1.size → Q true { s with heap := h' } := fun h' sb r => by
      have q := hQ h' sb
      rw [hS] at q
      exact q (hsz ▸ r)
    refine wpAny_bind (hgw _ ?_)
    split
    · refine wpAny_bind ?_
      rw [hashByValue_scannable 8 hsc]
      refine wpAny_pure (setG_tail ?_ ho hex hd g1 nd1 m1 hb1 ?_ ?_ ?_ ?_)
      · intro b s₁ Q' q; cases b <;> first | exact wpAny_pure q | exact wpAny_rule q
      · first | (split <;> first | exact hf1 | exact SetTable.fits_plain_off hf1) | exact hf1
      · first | (split <;> exact hr1) | exact hr1
      · first | (split <;> exact hled) | exact hled
      · intro h' sb r; dsimp only; exact wpAny_pure (fin h' sb r)
    · refine wpAny_bind (wpAny_pure ?_)
      simp only [↓reduceIte]
      refine setG_tail ?_ ho hex hd g1 nd1 m1 hb1 hf1 hr1 hled ?_
      · intro b s₁ Q' q; cases b <;> first | exact wpAny_pure q | exact wpAny_rule q
      · intro h' sb r; dsimp only; exact wpAny_pure (fin h' sb r)
theorem setG_new {h : Heap} {a : Addr} (ho : h.get? a = some { cls := .type "set", dict := none, data := .set #[] 0 (.fresh 0 0 (!w.params.followText "set-order")) }) : SetG kd key h a (fun _ => false) 0 :=
  ⟨_, #[], 0, _, ho, ⟨rfl, rfl, rfl⟩, rfl, (fun e he => by simp at he), (by simp), (fun k => by simp), (by decide), (by rfl), rfl, List.Pairwise.nil, by
    show _ ∨ (!w.params.followText "set-order") = true
    cases w.params.followText "set-order" <;> simp⟩
/-- the values go in, one after another -/
theorem setG_loop {I : Addr} {fp wr : List Addr} {G : Array GenState → Array GenState → Prop} {m : Nat} {Pv : Nat → Value → Prop} {St : Nat → Shared → Prop} {R : Result → Shared → Prop}
    (W : WalksS P w A.in1 I fp wr G m Pv St) (T : Addr) (hT : T ∉ fp) (ks : List KT) (hm : m = ks.length) (hb : ks.length + 1 < scanBound) (hval : ∀ i v, Pv i v → ∃ k, ks[i]? = some k ∧ kd.is k v = true ∧ key v = k ∧ v.scannable = true) :
    ∀ (left i : Nat) (s : Shared), m - i = left → i ≤ m → St i s → (∃ c, c ≤ i ∧ SetG kd key s.heap T (fun j => decide (j ∈ ks.take i)) c) →
      (∀ s' c, Moved (T :: wr) G s s' → c ≤ m → SetG kd key s'.heap T (fun j => decide (j ∈ ks)) c → R (.ok (.ret .none)) s') →
      codeAny (model P w) A (.builtin "set.update.loop" ⟨[.ref T, .ref I], []⟩) R s := by
  have hTw : T ∉ wr := fun h => hT (W.sub _ h)
  have hsub : ∀ b ∈ wr, b ∈ T :: wr := fun b hb => List.mem_cons_of_mem _ hb
  intro left
  induction left with
  | zero =>
    intro i s hl hi hst ⟨c, hc, hS⟩ hR
    obtain rfl : i = m := by omega
    refine codeAny_builtin F.entry_set_update_loop ?_
    rw [Around.under_plainId F.plain_set_update_loop _]
    show wpAny _ A.in1 (pyNext (.ref I) >>= _) _ _ s
    refine wpAny_bind (W.done s _ _ hst fun s' hmv => ?_)
    rw [List.take_of_length_le (by omega)] at hS
    exact wpAny_pure (hR s' c (hmv.mono hsub) hc (hS.keep fun o e => hmv.heap T o hTw e))
  | succ left ih =>
    intro i s hl hi hst ⟨c, hc, hS⟩ hR
    have hlt : i < m := by omega
    refine codeAny_builtin F.entry_set_update_loop ?_
    rw [Around.under_plainId F.plain_set_update_loop _]
    show wpAny _ A.in1 (pyNext (.ref I) >>= _) _ _ s
    refine wpAny_bind (W.item i s _ _ hlt hst fun v s' hP hst' hmv => ?_)
    obtain ⟨z, hz, hk1, hk2, hk3⟩ := hval i v hP
    have hS' := hS.keep (h' := s'.heap) fun o e => hmv.heap T o hTw e
    show wpAny _ A.in1 (holding [v] (setAdd T v) >>= _) _ _ s'
    refine wpAny_bind (wpAny_holding ?_)
    unfold setAdd
    refine wpAny_holding (wpAny_bind (kd.pyHash (k := z) hk1 ?_))
    refine setG_put (s := { s' with toks := s'.toks + 1 }) hk1 hk2 hk3 hS' (by omega) fun h' hsb hS2 => ?_
    have hS3 : SetG kd key h' T (fun j => decide (j ∈ ks.take (i + 1))) (if decide (z ∈ ks.take i) = true then c else c + 1) := hS2.same fun j => by
      rw [List.take_add_one, hz]
      simp [List.mem_append]
    refine wpAny_pure ⟨plainId_quiet F.plain_set_update_loop _, ih (i + 1) _ (by omega) hlt (W.frame _ s' _ _ hst' (Nat.le_succ _) fun b hb o e => ?_) ⟨_, by split <;> omega, hS3⟩ fun s'' c2 hm2 hc2 hS4 => ?_⟩
    · rw [hsb.2 b (fun h => hT (h ▸ hb))]; exact e
    · refine hR s'' c2 (Moved.trans W.gtrans ((hmv.mono hsub).then_heap (Nat.le_succ _) fun b o hb e => ?_) hm2) hc2 hS4
      rw [hsb.2 b (fun h => hb (h ▸ List.mem_cons_self))]; exact e
end
end Pu
set_option Elab.async false
set_option linter.all false
set_option maxRecDepth 100000
set_option maxHeartbeats 4000000
namespace Pu
open PySem PySem.Spec PyProof.Rows L2
section
variable {P : Program} {w : World} {KT : Type} [DecidableEq KT] {kd : KeyKind P w KT} {key : Value → KT} {A : Around} {E : Value → Shared → Prop} {s : Shared}
/-- an empty set's object -/
def ob0 (w : World) : Obj := { cls := .type "set", dict := none, data := .set #[] 0 (.fresh 0 0 (!w.params.followText "set-order")) }
/-- set(l) of a list: the set of its values' keys -/
theorem setG_call {l : Addr} {items : Array Value} (ks : List KT) {Q : Value → Shared → Prop} (hA : A.handled = none) (hl : s.heap.IsList l items) (hn : items.size = ks.length)
    (hv : ∀ (i : Nat) (v : Value), items[i]? = some v → ∃ k, ks[i]? = some k ∧ kd.is k v = true ∧ key v = k ∧ v.scannable = true) (hb : ks.length + 1 < scanBound)
    (H : ∀ (h' : Heap) (tk c : Nat), SetG kd key h' s.heap.objs.size (fun j => decide (j ∈ ks)) c → c ≤ ks.length → (∀ b o, s.heap.get? b = some o → h'.get? b = some o) → Q (.ref s.heap.objs.size) { s with heap := h', toks := tk }) :
    wpAny (model P w) A (call (.type "set") [.ref l]) Q E s := by
  have ⟨c0, tl0, mro0⟩ := F.called_set.mro; have made0 := F.called_set.made; have sub0 := F.called_set.sub
  have k1 := F.called_set.notType; have k2 := F.called_set.canCreate; have k3 := F.typeCall_set_1 (.ref l)
  apply wpAny_call
  apply codeAny_of_tree
  show wpAny _ _ (callAny (.type "set") _) _ _ _
  apply wpAny_pure
  refine ⟨Code.quiet_builtin _ (by decide +kernel), codeAny_builtin F.entry_type_call ?_⟩
  rw [Around.under_plain (weight_type_call_type "set" [.ref l] []) rfl]
  (repeat (any_goals (first | assumption | wp_step)))
  refine codeAny_mono (code_set_led1 (.ref l) (E := E) (Q₁ := fun ob t => ob = .ref s.heap.objs.size ∧ t = { s with heap := s.heap.push (ob0 w) }) ⟨rfl, rfl⟩) fun r t1 g1 => ?_
  cases r with
  | error e => exact g1
  | ok fl =>
    cases fl with
    | ret ob =>
      obtain ⟨rfl, rfl⟩ := g1
      have at0 : (s.heap.push (ob0 w)).get? s.heap.objs.size = some (ob0 w) := Heap.get?_push_size _ rfl
      have ty0 : Shared.TypeIs { s with heap := s.heap.push (ob0 w) } (.ref s.heap.objs.size) "set" := ⟨_, at0, rfl⟩
      have li0 := F.called_set.init.lookup; have bi0 := F.called_set.init.bind (.ref s.heap.objs.size)
      (repeat (any_goals (first | assumption | wp_step)))
      refine codeAny_mono (codeAny_call_builtin (R := wants (fun r t2 => r = .none ∧ ∃ h' tk c, t2 = { s with heap := h', toks := tk } ∧ SetG kd key h' s.heap.objs.size (fun j => decide (j ∈ ks)) c ∧ c ≤ ks.length ∧ (∀ b o, s.heap.get? b = some o → h'.get? b = some o)) E)
        F.called_set.init.plain F.entry_set_init (check_set_init_1 ty0 ?_)) fun r2 t2 g2 => ?_
      · obtain ⟨⟨ocls, odict, odata, oslots⟩, hol, hcl, nl, hdl⟩ := hl
        simp only at hcl hdl
        subst hcl; subst hdl
        have lk : (s.heap.push (ob0 w)).get? l = some { cls := .type "list", dict := odict, data := .seq items nl, slots := oslots } := Heap.get?_push_of_some _ hol
        have l1 : (s.heap.push (ob0 w)).IsList l items := ⟨_, lk, rfl, nl, rfl⟩
        have sb1 := F.sub_list_set; have sb2 := F.sub_list_frozenset
        have nd1 : (Value.type "list" == Value.type "dict") = false := by decide
        have zz : (s.heap.push (ob0 w)).objs.size = s.heap.objs.size + 1 := Heap.size_push ..
        have lS : l < s.heap.objs.size := Heap.lt_size hol
        unfold Builtin.«set.__init__» noKeywords Builtin.Frozenset.updateFrom
        (generalize gi : pyIter = PI; wp_walk; subst gi)
        refine wpAny_pyIter_list l1 (wpAny_bind (wpAny_runValue ?_))
        have h3 : A.in1.in1.in1.handled = none := by simp [hA]
        have nI : l ≠ (s.heap.push (ob0 w)).objs.size := Nat.ne_of_lt (zz ▸ Nat.lt_succ_of_lt lS)
        refine setG_loop (kd := kd) (key := key) ((Walks.list h3 _ l nI items).toS) s.heap.objs.size (fun m => (List.mem_cons.mp m).elim (fun e => Nat.ne_of_lt (Nat.lt_succ_self _) (e.trans zz)) fun e => Nat.ne_of_gt lS (List.mem_singleton.mp e)) ks hn hb hv (items.size - 0) 0 _ (by omega) (Nat.zero_le _)
          ⟨⟨_, Heap.get?_push_size _ rfl, rfl, rfl⟩, l1.push _⟩ ⟨0, Nat.le_refl 0, (setG_new (Heap.get?_push_of_some _ at0)).same fun j => by simp⟩ fun t3 c' mv hc' g3 => ?_
        obtain ⟨h', g2, d', tk', os'⟩ := t3
        have eg : g2 = s.gens := mv.gens
        have ed : d' = s.drawn := mv.drawn
        have eo : os' = s.os := mv.os
        subst eg ed eo
        show wpAny _ _ _ _ _ _
        refine wpAny_pure (wpAny_pure ⟨rfl, h', tk', c', rfl, g3, hn ▸ hc', fun b o e => ?_⟩)
        have b0 : b < s.heap.objs.size := Heap.lt_size e
        exact mv.heap b o (fun m => (List.mem_cons.mp m).elim (fun e => Nat.ne_of_lt b0 e) fun e => Nat.ne_of_lt (Nat.lt_succ_of_lt b0) ((List.mem_singleton.mp e).trans zz)) (Heap.get?_push_of_some _ (Heap.get?_push_of_some _ e))
      · cases r2 with
        | error e => exact g2
        | ok fl2 =>
          cases fl2 with
          | ret r =>
            obtain ⟨rfl, h', tk, c', rfl, g3, hc', kk⟩ := g2
            (repeat (any_goals (first | assumption | wp_step)))
            exact H _ _ _ g3 hc' kk
          | _ => exact g2.elim
    | _ => exact g1.elim
end
end Pu
set_option Elab.async false
set_option linter.all false
set_option maxRecDepth 100000
set_option maxHeartbeats 2000000
namespace Pu
open PySem PySem.Spec PyProof.Rows L2
section
variable {P : Program} {w : World} {KT : Type} [DecidableEq KT] {kd : KeyKind P w KT} {key : Value → KT} {A : Around} {E : Value → Shared → Prop} {s : Shared} {a : Addr} {S : KT → Bool} {n : Nat}
theorem eachG (vs : List Value) (h : ∀ v ∈ vs, kd.is (key v) v = true) : PySem.W.EachIs (fun v k => kd.is k v = true) vs (vs.map key) := by
  induction vs with
  | nil => exact .nil
  | cons v vs ih => exact .cons (h v List.mem_cons_self) (ih fun u hu => h u (List.mem_cons_of_mem _ hu))
/-- sorted(a) of a set -/
theorem sortG_call {enc : KT → PyData} {Q : Value → Shared → Prop} (R : SetG kd key s.heap a S n) (hA : A.handled = none) (hu : A.units + 8 < cLine)
    (hr : ∀ (h : Heap) (k : KT) (v : Value), kd.is k v = true → Reads h v (enc k) []) (hal : ∀ b b' : KT, PySem.W.alike (enc b) (enc b') = true) (hk : ∀ b : KT, enc b ≠ .none ∧ ∀ xs, enc b ≠ .tuple xs) (hd : ∀ b : KT, (enc b).depth = 0)
    (H : ∀ s' p (out : Array Value) (c : Nat) (bs : List KT), (∀ b o, s.heap.get? b = some o → s'.heap.get? b = some o) → s'.gens = s.gens → s'.os = s.os → s.heap.objs.size ≤ p → s'.heap.get? p = some (seqObj "list" out c) →
      bs.Nodup → (∀ k, k ∈ bs ↔ S k = true) → PySem.W.EachIs (fun v k => kd.is k v = true) out.toList (bs.mergeSort (PySem.W.dataLe false enc)) → Q (.ref p) s') :
    wpAny (model P w) A (call (.builtin "sorted") [.ref a]) Q E s := by
  obtain ⟨o, es, ep, t, ho, hex, hdt, g, nd, hm, hb, hf, hn, hri, hl⟩ := R
  refine Calls.call_function_entry kind_sorted plain_sorted entry_sorted (args_sorted1 _) ?_
  unfold Builtin.«sorted»
  refine wpAny_bind (m := checkCount "sorted" 1 1 _) (wpAny_pure (wpAny_bind (collect_set (A := A.in1) hA ⟨o, ho, hex.1, hdt⟩ hf hb hri hl fun t1 vs k1 hz g1 o1 pm => ?_)))
  have pk : (vs.map key).Perm (es.toList.map fun e => key e.2) := by
    have q := pm.map key
    rwa [List.map_map] at q
  have hi : ∀ v ∈ vs, kd.is (key v) v = true := fun v hv => by
    obtain ⟨e, he, rfl⟩ := List.mem_map.mp (pm.mem_iff.mp hv)
    exact (g e he).1
  have hvl : vs.length < scanBound := by rw [pm.length_eq, List.length_map, Array.length_toList]; exact hb
  have hvs : vs.length ≤ sizeLine := fits_of_scanBound hvl
  refine wpAny_bind (wpAny_newList ?_ hvs)
  have atL : (t1.heap.push (seqObj "list" vs.toArray 0)).get? t1.heap.objs.size = some (seqObj "list" vs.toArray 0) := Heap.get?_push_size _ rfl
  have ei := eachG vs hi
  refine wpAny_bind (wpAny_holding (PySem.W.list_sort_data (s := { t1 with heap := t1.heap.push (seqObj "list" vs.toArray 0) }) (enc := enc) (R := fun v k => kd.is k v = true) atL ei (ei.mono fun v k z => ⟨[], hr _ k v z, fun q => by cases q⟩)
    (PySem.W.AllAlike.of hal) (.others hk) (by rw [List.length_map]; exact hvs) (fun b _ => by rw [hd b]; show A.units + 1 + 1 + 0 < cLine; omega) fun out ho2 e2 => ?_))
  obtain ⟨c, hc⟩ := sortedHeap_at (vs := vs) (out := out.toArray) atL
  refine wpAny_pure ⟨_, rfl, H { t1 with heap := sortedHeap (t1.heap.push (seqObj "list" vs.toArray 0)) t1.heap.objs.size vs out.toArray } t1.heap.objs.size out.toArray c (vs.map key) (fun b u e => ?_) g1 o1 hz hc (pk.nodup_iff.mpr nd) (fun k => by rw [pk.mem_iff, ← hm k]) e2⟩
  have q := k1 b u e
  have lt := Heap.lt_size q
  show (sortedHeap (t1.heap.push (seqObj "list" vs.toArray 0)) t1.heap.objs.size vs out.toArray).get? b = some u
  rw [sortedHeap_old (Nat.ne_of_lt lt) (by rw [size_push']; exact Nat.lt_succ_of_lt lt)]
  exact Heap.get?_push_of_some _ q
end
end Pu
set_option Elab.async false
set_option linter.all false
set_option maxRecDepth 100000
set_option maxHeartbeats 4000000
namespace Pu
open PySem PySem.Spec PyProof.Rows L2
section
variable {P : Program} {w : World} {KT : Type} [DecidableEq KT] {kd : KeyKind P w KT} {key : Value → KT} {A : Around} {E : Value → Shared → Prop} {s : Shared}
/-- set(x) of a text: the set of its signs' keys -/
theorem setG_callS {x : Str} {tx : Tok} (ks : List KT) {Q : Value → Shared → Prop} (hA : A.handled = none) (hn : x.cps.size = ks.length)
    (hv : ∀ (i : Nat) (v : Value), SignAt x i v → ∃ k, ks[i]? = some k ∧ kd.is k v = true ∧ key v = k ∧ v.scannable = true) (hb : ks.length + 1 < scanBound)
    (H : ∀ (h' : Heap) (tk c : Nat), SetG kd key h' s.heap.objs.size (fun j => decide (j ∈ ks)) c → c ≤ ks.length → (∀ b o, s.heap.get? b = some o → h'.get? b = some o) → Q (.ref s.heap.objs.size) { s with heap := h', toks := tk }) :
    wpAny (model P w) A (call (.type "set") [.str x tx]) Q E s := by
  have ⟨c0, tl0, mro0⟩ := F.called_set.mro; have made0 := F.called_set.made; have sub0 := F.called_set.sub
  have k1 := F.called_set.notType; have k2 := F.called_set.canCreate; have k3 := F.typeCall_set_1 (.str x tx)
  apply wpAny_call
  apply codeAny_of_tree
  show wpAny _ _ (callAny (.type "set") _) _ _ _
  apply wpAny_pure
  refine ⟨Code.quiet_builtin _ (by decide +kernel), codeAny_builtin F.entry_type_call ?_⟩
  rw [Around.under_plain (weight_type_call_type "set" [.str x tx] []) rfl]
  (repeat (any_goals (first | assumption | wp_step)))
  refine codeAny_mono (code_set_led1 (.str x tx) (E := E) (Q₁ := fun ob t => ob = .ref s.heap.objs.size ∧ t = { s with heap := s.heap.push (ob0 w) }) ⟨rfl, rfl⟩) fun r t1 g1 => ?_
  cases r with
  | error e => exact g1
  | ok fl =>
    cases fl with
    | ret ob =>
      obtain ⟨rfl, rfl⟩ := g1
      have at0 : (s.heap.push (ob0 w)).get? s.heap.objs.size = some (ob0 w) := Heap.get?_push_size _ rfl
      have ty0 : Shared.TypeIs { s with heap := s.heap.push (ob0 w) } (.ref s.heap.objs.size) "set" := ⟨_, at0, rfl⟩
      have li0 := F.called_set.init.lookup; have bi0 := F.called_set.init.bind (.ref s.heap.objs.size)
      (repeat (any_goals (first | assumption | wp_step)))
      refine codeAny_mono (codeAny_call_builtin (R := wants (fun r t2 => r = .none ∧ ∃ h' tk c, t2 = { s with heap := h', toks := tk } ∧ SetG kd key h' s.heap.objs.size (fun j => decide (j ∈ ks)) c ∧ c ≤ ks.length ∧ (∀ b o, s.heap.get? b = some o → h'.get? b = some o)) E)
        F.called_set.init.plain F.entry_set_init (check_set_init_1 ty0 ?_)) fun r2 t2 g2 => ?_
      · have sb1 := F.sub_str_set
        have sb2 := F.sub_str_frozenset
        have nd1 : (Value.type "str" == Value.type "dict") = false := by decide
        have zz : (s.heap.push (ob0 w)).objs.size = s.heap.objs.size + 1 := Heap.size_push ..
        unfold Builtin.«set.__init__» noKeywords Builtin.Frozenset.updateFrom
        (generalize gi : pyIter = PI; wp_walk; subst gi)
        refine wpAny_pyIter_str fun oi St W st0 => wpAny_bind (wpAny_runValue ?_)
        have h3 : A.in1.in1.in1.handled = none := by simp [hA]
        refine setG_loop (kd := kd) (key := key) (W _ h3).toS s.heap.objs.size (fun m => Nat.ne_of_lt (Nat.lt_succ_self _) ((List.mem_singleton.mp m).trans zz)) ks hn hb hv (x.cps.size - 0) 0 _ (by omega) (Nat.zero_le _)
          st0 ⟨0, Nat.le_refl 0, (setG_new (Heap.get?_push_of_some _ at0)).same fun j => by simp⟩ fun t3 c' mv hc' g3 => ?_
        obtain ⟨h', g2, d', tk', os'⟩ := t3
        have eg : g2 = s.gens := mv.gens
        have ed : d' = s.drawn := mv.drawn
        have eo : os' = s.os := mv.os
        subst eg ed eo
        show wpAny _ _ _ _ _ _
        refine wpAny_pure (wpAny_pure ⟨rfl, h', tk', c', rfl, g3, hn ▸ hc', fun b o e => ?_⟩)
        have b0 : b < s.heap.objs.size := Heap.lt_size e
        exact mv.heap b o (fun m => (List.mem_cons.mp m).elim (fun e => Nat.ne_of_lt b0 e) fun e => Nat.ne_of_lt (Nat.lt_succ_of_lt b0) ((List.mem_singleton.mp e).trans zz)) (Heap.get?_push_of_some _ (Heap.get?_push_of_some _ e))
      · cases r2 with
        | error e => exact g2
        | ok fl2 =>
          cases fl2 with
          | ret r =>
            obtain ⟨rfl, h', tk, c', rfl, g3, hc', kk⟩ := g2
            (repeat (any_goals (first | assumption | wp_step)))
            exact H _ _ _ g3 hc' kk
          | _ => exact g2.elim
    | _ => exact g1.elim
end
end Pu
set_option Elab.async false
set_option linter.all false
set_option maxRecDepth 100000
set_option maxHeartbeats 1000000
namespace Pu
open PySem PySem.Spec PyProof.Rows L2
/-! ### each item once; the order of a set -/
theorem ddL_mem {α : Type} [BEq α] [LawfulBEq α] (a : α) : ∀ l : List α, a ∈ ddL l ↔ a ∈ l
  | [] => Iff.rfl
  | x :: xs => by
    unfold ddL
    split
    · rename_i h
      rw [ddL_mem a xs, List.mem_cons]
      exact ⟨.inr, fun z => z.elim (fun e => e ▸ List.contains_iff_mem.mp h) id⟩
    · rw [List.mem_cons, List.mem_cons, ddL_mem a xs]
theorem ddL_nodup {α : Type} [BEq α] [LawfulBEq α] : ∀ l : List α, (ddL l).Nodup
  | [] => List.nodup_nil
  | x :: xs => by
    unfold ddL
    split
    · exact ddL_nodup xs
    · rename_i h
      exact List.nodup_cons.mpr ⟨fun z => h (List.contains_iff_mem.mpr ((ddL_mem x xs).mp z)), ddL_nodup xs⟩
theorem ddL_len {α : Type} [BEq α] : ∀ l : List α, (ddL l).length ≤ l.length
  | [] => Nat.le_refl _
  | x :: xs => by
    have := ddL_len xs
    unfold ddL
    split <;> simp <;> omega
theorem sort_perm {α : Type} {le : α → α → Bool} (tr : ∀ a b c, le a b = true → le b c = true → le a c = true) (to : ∀ a b, (le a b || le b a) = true) (an : ∀ a b, le a b = true → le b a = true → a = b) {l1 l2 : List α} (p : l1.Perm l2) :
    l1.mergeSort le = l2.mergeSort le :=
  List.Perm.eq_of_pairwise (le := fun a b => le a b = true) (fun a b _ _ => an a b) (List.pairwise_mergeSort tr to l1) (List.pairwise_mergeSort tr to l2) ((List.mergeSort_perm l1 le).trans (p.trans (List.mergeSort_perm l2 le).symm))
theorem leI : PySem.W.dataLe false PyData.int = fun a b => decide (a ≤ b) := PySem.W.dataLe_int fun b => b
theorem leS : PySem.W.dataLe false PyData.str = fun a b => decide (a.cps.toList ≤ b.cps.toList) := PySem.W.dataLe_str fun b => b
theorem sort_permI {l1 l2 : List Int} (p : l1.Perm l2) : l1.mergeSort (PySem.W.dataLe false PyData.int) = l2.mergeSort (PySem.W.dataLe false PyData.int) := by
  rw [leI]
  exact sort_perm (fun a b c => by simp only [decide_eq_true_eq]; omega) (fun a b => by simp only [Bool.or_eq_true, decide_eq_true_eq]; omega) (fun a b => by simp only [decide_eq_true_eq]; omega) p
theorem sort_permS {l1 l2 : List Str} (p : l1.Perm l2) : l1.mergeSort (PySem.W.dataLe false PyData.str) = l2.mergeSort (PySem.W.dataLe false PyData.str) := by
  rw [leS]
  refine sort_perm (fun a b c => by simp only [decide_eq_true_eq]; exact fun h1 h2 => List.le_trans h1 h2) (fun a b => by simp only [Bool.or_eq_true, decide_eq_true_eq]; exact List.le_total _ _) (fun a b => ?_) p
  simp only [decide_eq_true_eq]
  exact fun h1 h2 => TL.ext_tl (List.le_antisymm h1 h2)
theorem each_vals {R : Value → V → Prop} : ∀ {us : List Value} {xs : List V}, PySem.W.EachIs R us xs → (∀ u x, R u x → RelV x u) → Vals xs us
  | _, _, .nil, _ => .nil
  | _, _, .cons h t, r => .cons (r _ _ h) (each_vals t r)
section
variable {X : Cx} {KT : Type} [DecidableEq KT] {kd : KeyKind X.prog X.w KT} {key : Value → KT} {enc : KT → PyData} {pins : List (Addr × Obj)} {σ : L2.St} {H1 F : Hp} {s1 : Shared} {E : Value → Shared → Prop} {Q : VK} {h' : Heap} {tk : Nat} {a : Addr} {c : Nat} {ks ks0 : List KT}
theorem each_map2 {α β : Type} {R : Value → β → Prop} (f : α → β) : ∀ {vs : List Value} {bs : List α}, PySem.W.EachIs (fun v b => R v (f b)) vs bs → PySem.W.EachIs R vs (bs.map f)
  | _, _, .nil => .nil
  | _, _, .cons h1 t => .cons h1 (each_map2 f t)
theorem sset_go (mk : KT → V) (tD : KT → D) (hmk : ∀ k v, kd.is k v = true → RelV (mk k) v) (hRp : ∀ F k, Rp X.K F (mk k) (tD k)) (hc : X.calm = true) (hu : X.A.units + 64 < cLine)
    (hr : ∀ (h : Heap) (k : KT) (v : Value), kd.is k v = true → Reads h v (enc k) []) (hal : ∀ b b' : KT, PySem.W.alike (enc b) (enc b') = true) (hk : ∀ b : KT, enc b ≠ .none ∧ ∀ xs, enc b ≠ .tuple xs) (hd : ∀ b : KT, (enc b).depth = 0)
    (uq : ∀ l1 l2 : List KT, l1.Perm l2 → l1.mergeSort (PySem.W.dataLe false enc) = l2.mergeSort (PySem.W.dataLe false enc)) (I1 : Inv X pins σ H1 s1) (k0 : ∀ b o, s1.heap.get? b = some o → h'.get? b = some o)
    (le0 : s1.heap.objs.size ≤ h'.objs.size) (G : SetG kd key h' a (fun j => decide (j ∈ ks)) c) (nd0 : ks0.Nodup) (m0 : ∀ k, k ∈ ks0 ↔ k ∈ ks) (hz : ks0.length < 4096)
    (q : ∀ v H', Res X.K true F H1 (.lst ((ks0.mergeSort (PySem.W.dataLe false enc)).map tD)) v H' → Q v H') :
    wpAny (model X.prog X.w) X.A (call (.builtin "sorted") [.ref a]) (EP X pins σ Q) E { s1 with heap := h', toks := tk } := by
  refine sortG_call (s := { s1 with heap := h', toks := tk }) G (I1.ok.hd hc) (by omega) hr hal hk hd fun s' p out c2 bs kp g o hp hg nd mem ei => ?_
  have pm : bs.Perm ks0 := (List.perm_ext_iff_of_nodup nd nd0).mpr fun k => by rw [mem k, decide_eq_true_eq, m0 k]
  rw [uq _ _ pm] at ei
  have hv : Vals ((ks0.mergeSort (PySem.W.dataLe false enc)).map mk) out.toList := each_vals (R := fun u x => RelV x u) (each_map2 mk (ei.mono fun u k z => hmk k u z)) fun _ _ z => z
  have hlen : ((ks0.mergeSort (PySem.W.dataLe false enc)).map mk).length ≤ sizeLine := by rw [List.length_map, List.length_mergeSort, sizeLine_eq]; omega
  have kall : ∀ b u, s1.heap.get? b = some u → s'.heap.get? b = some u := fun b u e => kp b u (k0 b u e)
  have hp' : s1.heap.objs.size ≤ p := Nat.le_trans le0 hp
  have hn : H1 p = none := I1.hok.fresh hp'
  have J : Inv X pins σ (upd H1 p (.lst ((ks0.mergeSort (PySem.W.dataLe false enc)).map mk))) { s1 with heap := s'.heap, gens := s'.gens, drawn := s'.drawn, toks := s'.toks } :=
    I1.call (ch := []) (Un.laid kall hp' hn) (I1.hok.laid kall hp' ⟨hlen, out.toList, c2, hv, hg⟩) (by rw [g]; exact I1.bare) (fun _ z => nomatch z)
  have e : s' = { s1 with heap := s'.heap, gens := s'.gens, drawn := s'.drawn, toks := s'.toks } := by
    cases s'
    cases s1
    cases o
    rfl
  rw [e]
  have rp : ∀ l : List KT, Rps X.K F (l.map mk) (l.map tD) := fun l => by
    induction l with
    | nil => exact .nil
    | cons x r ih => exact .cons (hRp F x) ih
  exact ⟨.ref p, _, J, rfl, q _ _ (.inr (.inl ⟨p, _, _, rfl, rfl, hn, rfl, rp _⟩))⟩
end
section
variable {X : Cx}
theorem sortD_S (l : List Str) (zs : List (List Nat)) (e : l = zs.map mkS) : (l.mergeSort (PySem.W.dataLe false PyData.str)).map (fun k : Str => D.str k.cps.toList) = sortD (zs.map .str) := by
  subst e
  unfold sortD
  rw [List.map_mergeSort (s := PySem.W.dataLe false toP) fun a _ b _ => ?_]
  · congr 1
    rw [List.map_map]
    exact List.map_congr_left fun z _ => rfl
  · show PySem.W.dataLe false PyData.str a b = PySem.W.dataLe false toP (D.str a.cps.toList) (D.str b.cps.toList)
    rfl
theorem sortD_I (ns : List Int) : (ns.mergeSort (PySem.W.dataLe false PyData.int)).map D.int = sortD (ns.map .int) := by
  unfold sortD
  rw [List.map_mergeSort (s := PySem.W.dataLe false toP) fun a _ b _ => ?_]
  rfl
def sKey : Value → Str
  | .str x _ => x
  | _ => Str.empty
def iKey : Value → Int
  | .int k _ => k
  | _ => 0
theorem valsS : ∀ {zs : List Str} {its : List Value}, Vals (zs.map V.str) its → ∀ (i : Nat) (v : Value), its[i]? = some v → ∃ k, zs[i]? = some k ∧ ∃ t, v = .str k t
  | [], _, r, i, v, h => by cases r; simp at h
  | z :: zs, _, r, i, v, h => by
    cases r with
    | cons r1 r2 =>
      cases i with
      | zero =>
        obtain ⟨t, rfl⟩ := r1
        simp at h
        exact ⟨z, rfl, t, h.symm⟩
      | succ i => exact valsS r2 i v (by simpa using h)
theorem valsI : ∀ {zs : List Int} {its : List Value}, Vals (zs.map V.int) its → ∀ (i : Nat) (v : Value), its[i]? = some v → ∃ k, zs[i]? = some k ∧ ∃ t, v = .int k t
  | [], _, r, i, v, h => by cases r; simp at h
  | z :: zs, _, r, i, v, h => by
    cases r with
    | cons r1 r2 =>
      cases i with
      | zero =>
        obtain ⟨t, rfl⟩ := r1
        simp at h
        exact ⟨z, rfl, t, h.symm⟩
      | succ i => exact valsI r2 i v (by simpa using h)
variable {pins : List (Addr × Obj)} {σ : L2.St} {H1 F : Hp} {s1 : Shared} {E : Value → Shared → Prop} {Q : VK} {h' : Heap} {tk : Nat} {a : Addr} {c : Nat}
theorem sset_S (zs : List (List Nat)) (hc : X.calm = true) (hu : X.A.units + 64 < cLine) (I1 : Inv X pins σ H1 s1) (k0 : ∀ b o, s1.heap.get? b = some o → h'.get? b = some o) (le0 : s1.heap.objs.size ≤ h'.objs.size)
    (G : SetG (PySem.strKind X.prog X.w) sKey h' a (fun j => decide (j ∈ zs.map mkS)) c) (hlt : zs.length < 4000) (q : ∀ v H', Res X.K true F H1 (.lst (sortD ((ddL zs).map .str))) v H' → Q v H') :
    wpAny (model X.prog X.w) X.A (call (.builtin "sorted") [.ref a]) (EP X pins σ Q) E { s1 with heap := h', toks := tk } := by
  have hl := ddL_len zs
  refine sset_go (F := F) (enc := PyData.str) V.str (fun k : Str => D.str k.cps.toList) (fun k v h => ?_) (fun F k => ?_) hc hu (fun h k v z => ?_) (fun _ _ => rfl) (fun _ => ⟨(fun z => by cases z), fun _ z => by cases z⟩) (fun _ => rfl) (fun _ _ => sort_permS) I1 k0 le0 G (ks0 := (ddL zs).map mkS)
    ?_ (fun k => ?_) (by rw [List.length_map]; omega) fun v H' r => q v H' (by rw [← sortD_S _ _ rfl]; exact r)
  · obtain ⟨t, rfl⟩ := Value.isStrOf_shape h
    exact ⟨t, rfl⟩
  · have e : V.str k = V.str (mkS k.cps.toList) := by congr 1
    rw [e]
    exact .mstr _
  · obtain ⟨t, rfl⟩ := Value.isStrOf_shape z
    exact .str _ _
  · exact List.Pairwise.map _ (fun x y ne z => ne (by have := congrArg (fun u : Str => u.cps.toList) z; simpa using this)) (ddL_nodup zs)
  · simp only [List.mem_map, ddL_mem]
theorem sset_I (zs : List Int) (hc : X.calm = true) (hu : X.A.units + 64 < cLine) (I1 : Inv X pins σ H1 s1) (k0 : ∀ b o, s1.heap.get? b = some o → h'.get? b = some o) (le0 : s1.heap.objs.size ≤ h'.objs.size)
    (G : SetG (intKind X.prog X.w) iKey h' a (fun j => decide (j ∈ zs)) c) (hlt : zs.length < 4000) (q : ∀ v H', Res X.K true F H1 (.lst (sortD ((ddL zs).map .int))) v H' → Q v H') :
    wpAny (model X.prog X.w) X.A (call (.builtin "sorted") [.ref a]) (EP X pins σ Q) E { s1 with heap := h', toks := tk } := by
  have hl := ddL_len zs
  refine sset_go (F := F) (enc := PyData.int) V.int D.int (fun k v h => ?_) (fun F k => .mint _) hc hu (fun h k v z => ?_) (fun _ _ => rfl) (fun _ => ⟨(fun z => by cases z), fun _ z => by cases z⟩) (fun _ => rfl) (fun _ _ => sort_permI) I1 k0 le0 G (ks0 := ddL zs)
    (ddL_nodup zs) (fun k => ddL_mem k zs) (by omega) fun v H' r => q v H' (by rw [← sortD_I]; exact r)
  · obtain ⟨t, rfl⟩ := Value.isInt_shape h
    exact ⟨t, rfl⟩
  · obtain ⟨t, rfl⟩ := Value.isInt_shape z
    exact .int _ _
theorem strsOf_signs (z : List Nat) : strsOf (z.map fun c => D.str [c]) = some (z.map fun c => [c]) := by
  induction z with
  | nil => rfl
  | cons a r ih => rw [List.map_cons, List.map_cons]; unfold strsOf; rw [ih]; rfl
theorem pe_sset {e : Expr} {te : TE} {p p2 q pos : Pos} (hc : X.calm = true) (hu : X.A.units + 64 < cLine) (hg : Gl X "sorted") (hm : X.mg "sorted" = none) (hg2 : Gl X "set") (hm2 : X.mg "set" = none) (ha : PE X e te)
    (na : starEach [e] X.env = (false, eval e X.env) :: starEach [] X.env) :
    PE X (.Call (.Name "sorted" p) [.Call (.Name "set" p2) [e] [] q] [] pos) (fun σ H Q => te σ H fun x H1 => ∃ d l, ssetD d = some l ∧ RND X.K true [d] (.lst l) [x] H1 Q) := by
  refine ⟨fun pins s σ H Q I h => ?_⟩
  refine Call_ (ld_blt I hg hm PyProof.Rows.boot_sorted ?_)
  refine PyProof.Rows.callWith_builtin1 (PyProof.Rows.args_cons ?_ rfl) rfl rfl
  refine Call_ (ld_blt I hg2 hm2 PyProof.Rows.boot_set ?_)
  refine PyProof.Rows.callWith_type1 (PyProof.Rows.args_cons (thn (ha.run pins s σ H _ I h) fun v s1 ⟨x, H1, I1, r1, q1⟩ => PyProof.Rows.args_nil ?_) na) na rfl
  obtain ⟨d, l, e1, F, le, rs, q⟩ := q1
  obtain ⟨y, ys, ey, ra, rz⟩ := rs.inv_cons
  cases rz.inv_nil
  cases ey
  have szL : ∀ {h' : Heap} {a : Addr} {KT : Type} [DecidableEq KT] {kd : KeyKind X.prog X.w KT} {key : Value → KT} {S : KT → Bool} {n : Nat}, SetG kd key h' a S n → a < h'.objs.size := fun G => by
    obtain ⟨o, _, _, _, ho, _⟩ := G
    exact Heap.lt_size ho
  cases d with
  | lst xs =>
    obtain ⟨a, vs, rfl, hp, rp⟩ := ra.lst
    cases r1
    obtain ⟨its, rv, hl, hz⟩ := I1.list (SqL.of (le _ _ hp))
    have e1' : ssetL xs = some l := e1
    unfold ssetL at e1'
    split at e1'
    · rename_i zs hzs
      obtain ⟨hlt, rfl⟩ := gd_some e1'
      have ev := strs_of hzs rp
      subst ev
      have hsz : its.toArray.size = (zs.map mkS).length := by rw [List.size_toArray, ← rv.length, List.length_map]
      exact setG_call (kd := PySem.strKind X.prog X.w) (key := sKey) (zs.map mkS) (I1.ok.hd hc) hl.isList hsz (fun i v hv => by
        obtain ⟨k, h1, t, rfl⟩ := valsS rv i v (by simpa using hv)
        exact ⟨k, h1, strKind_is _ _ _ _, rfl, rfl⟩) (by rw [List.length_map]; unfold scanBound; omega) fun h' tk c G hcl kk => PyProof.Rows.args_nil (sset_S (F := F) zs hc hu I1 kk (Nat.le_of_lt (szL G)) G hlt q)
    · obtain ⟨zs, hzs, e1'⟩ := Option.bind_eq_some_iff.mp e1'
      obtain ⟨hlt, rfl⟩ := gd_some e1'
      have ev := ints_of hzs rp
      subst ev
      have hsz : its.toArray.size = zs.length := by rw [List.size_toArray, ← rv.length, List.length_map]
      exact setG_call (kd := intKind X.prog X.w) (key := iKey) zs (I1.ok.hd hc) hl.isList hsz (fun i v hv => by
        obtain ⟨k, h1, t, rfl⟩ := valsI rv i v (by simpa using hv)
        exact ⟨k, h1, intKind_is _ _ _ _, rfl, rfl⟩) (by unfold scanBound; omega) fun h' tk c G hcl kk => PyProof.Rows.args_nil (sset_I (F := F) zs hc hu I1 kk (Nat.le_of_lt (szL G)) G hlt q)
  | str z =>
    cases ra.str
    obtain ⟨t, rfl⟩ := r1
    have es := strsOf_signs z
    have e1' : ssetL (z.map fun c => D.str [c]) = some l := e1
    unfold ssetL at e1'
    rw [es] at e1'
    obtain ⟨hlt, rfl⟩ := gd_some e1'
    have hlt' := hlt
    rw [List.length_map] at hlt'
    exact setG_callS (kd := PySem.strKind X.prog X.w) (key := sKey) ((z.map fun c => [c]).map mkS) (I1.ok.hd hc) (by simp) (fun i v hv => by
      obtain ⟨k, u, h1, rfl⟩ := hv
      refine ⟨⟨#[k]⟩, ?_, strKind_is _ _ _ _, rfl, rfl⟩
      have h2 : z[i]? = some k := by simpa using h1
      simp [List.getElem?_map, h2]) (by rw [List.length_map, List.length_map]; unfold scanBound; omega) fun h' tk c G hcl kk => PyProof.Rows.args_nil (sset_S (F := F) _ hc hu I1 kk (Nat.le_of_lt (szL G)) G hlt q)
  | _ => cases e1
end
end Pu
set_option Elab.async false
set_option linter.all false
set_option maxRecDepth 100000
namespace Pu
open PySem PySem.Spec PyProof.Rows L2

section
variable {X : Cx} {K : PySem.W.Frag} {F H : Hp} {a b d : D} {x y v : V}
/-- what a built-in stands for -/
def Bi.val : Bi → Value
  | .len => .builtin "len" | .sum => .builtin "sum" | .max => .builtin "max" | .min => .builtin "min" | .all => .builtin "all" | .any => .builtin "any" | .abs => .builtin "abs" | .sorted => .builtin "sorted"
  | .tuple => .type "tuple" | .list => .type "list" | .int => .type "int" | .str => .type "str" | .bool => .type "bool"
theorem one_of {xs : List V} {a : D} (h : Rps K F xs [a]) : ∃ x, xs = [x] ∧ Rp K F x a := by
  obtain ⟨x, ys, rfl, h1, h2⟩ := h.inv_cons
  exact ⟨x, by rw [h2.inv_nil], h1⟩
theorem two_of {xs : List V} {a b : D} (h : Rps K F xs [a, b]) : ∃ x y, xs = [x, y] ∧ Rp K F x a ∧ Rp K F y b := by
  obtain ⟨x, ys, rfl, h1, h2⟩ := h.inv_cons
  obtain ⟨y, rfl, h3⟩ := one_of h2
  exact ⟨x, y, rfl, h1, h3⟩
abbrev RB (X : Cx) (f : Bi) : List V → Hp → VK → Prop := fun xs H Q => ∃ ds d, opBi f ds = some d ∧ RND X.K true ds d xs H Q
theorem rb_len : CallR X (.builtin "len") (RB X .len) := by
  intro pins s σ H xs us Q I r h
  obtain ⟨ds, d, e, F, l, rs, q⟩ := h
  match ds, e with
  | [.str z], e =>
    obtain ⟨hz, rfl⟩ := gd_some e
    obtain ⟨x, rfl, r1⟩ := one_of rs
    cases r1.str
    refine call_len_str pins s σ H _ us Q I r ⟨mkS z, rfl, by rw [mkS_len]; exact hz, ?_⟩
    rw [mkS_len]
    exact q _ _ (.old fun _ => .mint _)
  | [.lst z], e =>
    cases Option.some.inj e
    obtain ⟨x, rfl, r1⟩ := one_of rs
    obtain ⟨p, vs, rfl, hp, rp⟩ := r1.lst
    refine call_len_seq pins s σ H _ us Q I r ⟨p, vs, rfl, .inl (SqL.of (l _ _ hp)), ?_⟩
    rw [rp.length]
    exact q _ _ (.old fun _ => .mint _)
  | [.tup z], e =>
    cases Option.some.inj e
    obtain ⟨x, rfl, r1⟩ := one_of rs
    obtain ⟨p, vs, rfl, hp, rp⟩ := r1.tup
    refine call_len_seq pins s σ H _ us Q I r ⟨p, vs, rfl, .inr (SqT.le l hp), ?_⟩
    rw [rp.length]
    exact q _ _ (.old fun _ => .mint _)
theorem rb_sum (hc : X.calm = true) : CallR X (.builtin "sum") (RB X .sum) := by
  intro pins s σ H xs us Q I r h
  obtain ⟨ds, d, e, F, l, rs, q⟩ := h
  match ds, e with
  | [.lst z], e =>
    obtain ⟨ns, e1, rfl⟩ := Option.map_eq_some_iff.mp e
    obtain ⟨x, rfl, r1⟩ := one_of rs
    obtain ⟨p, vs, rfl, hp, rp⟩ := r1.lst
    cases ints_of e1 rp
    exact cr_sum hc pins s σ H _ us Q I r ⟨p, ns, rfl, SqL.of (l _ _ hp), q _ _ (.old fun _ => .mint _)⟩
theorem rb_max (hc : X.calm = true) : CallR X (.builtin "max") (RB X .max) := by
  intro pins s σ H xs us Q I r h
  obtain ⟨ds, d, e, F, l, rs, q⟩ := h
  match ds, e with
  | [.lst z], e =>
    obtain ⟨ns, e1, e2⟩ := Option.bind_eq_some_iff.mp e
    obtain ⟨m, e3, rfl⟩ := Option.map_eq_some_iff.mp e2
    obtain ⟨x, rfl, r1⟩ := one_of rs
    obtain ⟨p, vs, rfl, hp, rp⟩ := r1.lst
    cases ints_of e1 rp
    obtain ⟨g1, g2⟩ := maxI_spec e3
    refine cr_max hc pins s σ H _ us Q I r ⟨p, ns, rfl, SqL.of (l _ _ hp), List.length_pos_of_mem g1, fun m' h1 h2 => ?_⟩
    have em : m' = m := by
      have := g2 m' h1
      have := h2 m g1
      omega
    rw [em]
    exact q _ _ (.old fun _ => .mint _)
  | [.int i, .int j], e =>
    cases Option.some.inj e
    obtain ⟨x, y, rfl, r1, r2⟩ := two_of rs
    cases r1.int; cases r2.int
    exact call_max2 hc pins s σ H _ us Q I r ⟨i, j, rfl, q _ _ (.old fun _ => .mint _)⟩
theorem rb_min (hc : X.calm = true) : CallR X (.builtin "min") (RB X .min) := by
  intro pins s σ H xs us Q I r h
  obtain ⟨ds, d, e, F, l, rs, q⟩ := h
  match ds, e with
  | [.lst z], e =>
    obtain ⟨ns, e1, e2⟩ := Option.bind_eq_some_iff.mp e
    obtain ⟨m, e3, rfl⟩ := Option.map_eq_some_iff.mp e2
    obtain ⟨x, rfl, r1⟩ := one_of rs
    obtain ⟨p, vs, rfl, hp, rp⟩ := r1.lst
    cases ints_of e1 rp
    obtain ⟨g1, g2⟩ := minI_spec e3
    refine cr_min hc pins s σ H _ us Q I r ⟨p, ns, rfl, SqL.of (l _ _ hp), List.length_pos_of_mem g1, fun m' h1 h2 => ?_⟩
    have em : m' = m := by
      have := g2 m' h1
      have := h2 m g1
      omega
    rw [em]
    exact q _ _ (.old fun _ => .mint _)
  | [.int i, .int j], e =>
    cases Option.some.inj e
    obtain ⟨x, y, rfl, r1, r2⟩ := two_of rs
    cases r1.int; cases r2.int
    exact call_min2 hc pins s σ H _ us Q I r ⟨i, j, rfl, q _ _ (.old fun _ => .mint _)⟩
theorem rb_all (hc : X.calm = true) : CallR X (.builtin "all") (RB X .all) := by
  intro pins s σ H xs us Q I r h
  obtain ⟨ds, d, e, F, l, rs, q⟩ := h
  match ds, e with
  | [.lst z], e =>
    obtain ⟨ns, e1, rfl⟩ := Option.map_eq_some_iff.mp e
    obtain ⟨x, rfl, r1⟩ := one_of rs
    obtain ⟨p, vs, rfl, hp, rp⟩ := r1.lst
    cases bols_of e1 rp
    exact cr_all hc pins s σ H _ us Q I r ⟨p, ns, rfl, SqL.of (l _ _ hp), q _ _ (.old fun _ => .mbl _)⟩
theorem rb_any (hc : X.calm = true) : CallR X (.builtin "any") (RB X .any) := by
  intro pins s σ H xs us Q I r h
  obtain ⟨ds, d, e, F, l, rs, q⟩ := h
  match ds, e with
  | [.lst z], e =>
    obtain ⟨ns, e1, rfl⟩ := Option.map_eq_some_iff.mp e
    obtain ⟨x, rfl, r1⟩ := one_of rs
    obtain ⟨p, vs, rfl, hp, rp⟩ := r1.lst
    cases bols_of e1 rp
    exact cr_any hc pins s σ H _ us Q I r ⟨p, ns, rfl, SqL.of (l _ _ hp), q _ _ (.old fun _ => .mbl _)⟩
theorem rb_abs : CallR X (.builtin "abs") (RB X .abs) := by
  intro pins s σ H xs us Q I r h
  obtain ⟨ds, d, e, F, l, rs, q⟩ := h
  match ds, e with
  | [.int i], e =>
    cases Option.some.inj e
    obtain ⟨x, rfl, r1⟩ := one_of rs
    cases r1.int
    exact call_abs pins s σ H _ us Q I r ⟨i, rfl, q _ _ (.old fun _ => .mint _)⟩
theorem rb_sorted (hu : X.A.units + 64 < cLine) : CallR X (.builtin "sorted") (RB X .sorted) := by
  intro pins s σ H xs us Q I r h
  obtain ⟨ds, d, e, z⟩ := h
  match ds, e with
  | [.lst y], e =>
    obtain ⟨h1, rfl⟩ := gd_some e
    rw [Bool.and_eq_true, Bool.and_eq_true, decide_eq_true_eq] at h1
    exact sorted_ok hu pins s σ H xs us Q I r ⟨y, h1, z⟩
theorem rb_tuple : CallR X (.type "tuple") (RB X .tuple) := by
  intro pins s σ H xs us Q I r h
  obtain ⟨ds, d, e, F, l, rs, q⟩ := h
  match ds, e with
  | [.lst z], e =>
    cases Option.some.inj e
    obtain ⟨x, rfl, r1⟩ := one_of rs
    obtain ⟨p, vs, rfl, hp, rp⟩ := r1.lst
    exact call_tuple_of pins s σ H _ us Q I r ⟨p, vs, rfl, .inl ⟨SqL.of (l _ _ hp), fun n hn => q _ _ (.inr (.inr ⟨n, _, _, rfl, rfl, hn, rfl, rp⟩))⟩⟩
  | [.tup z], e =>
    cases Option.some.inj e
    obtain ⟨x, rfl, r1⟩ := one_of rs
    obtain ⟨p, vs, rfl, hp, rp⟩ := r1.tup
    exact call_tuple_of pins s σ H _ us Q I r ⟨p, vs, rfl, .inr ⟨SqT.le l hp, q _ _ (.inl ⟨rfl, (fun _ ds e => by simp at e), fun F' l' => .mkT (SqT.le l' hp) (rp.le l')⟩)⟩⟩
theorem rb_list : CallR X (.type "list") (RB X .list) := by
  intro pins s σ H xs us Q I r h
  obtain ⟨ds, d, e, F, l, rs, q⟩ := h
  match ds, e with
  | [.lst z], e =>
    cases Option.some.inj e
    obtain ⟨x, rfl, r1⟩ := one_of rs
    obtain ⟨p, vs, rfl, hp, rp⟩ := r1.lst
    exact call_list_of pins s σ H _ us Q I r ⟨p, vs, rfl, .inl (SqL.of (l _ _ hp)), fun n hn => q _ _ (.inr (.inl ⟨n, _, _, rfl, rfl, hn, rfl, rp⟩))⟩
  | [.tup z], e =>
    cases Option.some.inj e
    obtain ⟨x, rfl, r1⟩ := one_of rs
    obtain ⟨p, vs, rfl, hp, rp⟩ := r1.tup
    exact call_list_of pins s σ H _ us Q I r ⟨p, vs, rfl, .inr (SqT.le l hp), fun n hn => q _ _ (.inr (.inl ⟨n, _, _, rfl, rfl, hn, rfl, rp⟩))⟩
theorem rb_int : CallR X (.type "int") (RB X .int) := by
  intro pins s σ H xs us Q I r h
  obtain ⟨ds, d, e, F, l, rs, q⟩ := h
  match ds, e with
  | [.int z], e =>
    cases Option.some.inj e
    obtain ⟨x, rfl, r1⟩ := one_of rs
    cases r1.int
    exact call_int1 pins s σ H _ us Q I r (.inl ⟨z, rfl, q _ _ (.old fun _ => .mint _)⟩)
  | [.bl z], e =>
    cases Option.some.inj e
    obtain ⟨x, rfl, r1⟩ := one_of rs
    cases r1.bl
    exact call_int1 pins s σ H _ us Q I r (.inr ⟨z, rfl, q _ _ (.old fun _ => .mint _)⟩)
theorem rb_bool : CallR X (.type "bool") (RB X .bool) := by
  intro pins s σ H xs us Q I r h
  obtain ⟨ds, d, e, F, l, rs, q⟩ := h
  match ds, e with
  | [.bl z], e =>
    cases Option.some.inj e
    obtain ⟨x, rfl, r1⟩ := one_of rs
    cases r1.bl
    exact call_bool1 pins s σ H _ us Q I r (.inr ⟨z, rfl, q _ _ (.old fun _ => .mbl _)⟩)
theorem rb_str : CallR X (.type "str") (RB X .str) := by
  intro pins s σ H xs us Q I r h
  obtain ⟨ds, d, e, F, l, rs, q⟩ := h
  match ds, e with
  | [.int i], e =>
    obtain ⟨hz, rfl⟩ := gd_some e
    obtain ⟨x, rfl, r1⟩ := one_of rs
    cases r1.int
    exact call_str_int pins s σ H _ us Q I r ⟨i, rfl, hz, q _ _ (.old fun _ => .mstr _)⟩
  | [.str z], e =>
    cases Option.some.inj e
    obtain ⟨x, rfl, r1⟩ := one_of rs
    cases r1.str
    exact SkE.call_str_str pins s σ H _ us Q I r ⟨mkS z, rfl, q _ _ (.old fun _ => .mstr _)⟩
/-- the call of a built-in -/
theorem pe_bi {f : Bi} {e : Expr} {es : List Expr} {t : TA} {p pos : Pos} (hc : X.calm = true) (hu : X.A.units + 64 < cLine) (hg : Gl X f.name) (hm : X.mg f.name = none) (ha : PA X (e :: es) t)
    (he : starEach (e :: es) X.env = (false, eval e X.env) :: starEach es X.env) (hpl : (backTo pos (starEach es X.env)).any (·.1) = false) : PE X (.Call (.Name f.name p) (e :: es) [] pos) (tCB (RB X f) t) := by
  cases f
  case len => exact pe_callB rb_len hg hm (by decide +kernel) ha (he := he) (hpl := hpl)
  case sum => exact pe_callB (rb_sum hc) hg hm (by decide +kernel) ha (he := he) (hpl := hpl)
  case max => exact pe_callB (rb_max hc) hg hm (by decide +kernel) ha (he := he) (hpl := hpl)
  case min => exact pe_callB (rb_min hc) hg hm (by decide +kernel) ha (he := he) (hpl := hpl)
  case all => exact pe_callB (rb_all hc) hg hm (by decide +kernel) ha (he := he) (hpl := hpl)
  case any => exact pe_callB (rb_any hc) hg hm (by decide +kernel) ha (he := he) (hpl := hpl)
  case abs => exact pe_callB rb_abs hg hm (by decide +kernel) ha (he := he) (hpl := hpl)
  case sorted => exact pe_callB (rb_sorted hu) hg hm (by decide +kernel) ha (he := he) (hpl := hpl)
  case tuple => exact pe_callTy rb_tuple hg hm (by decide +kernel) ha (he := he) (hpl := hpl)
  case list => exact pe_callTy rb_list hg hm (by decide +kernel) ha (he := he) (hpl := hpl)
  case int => exact pe_callTy rb_int hg hm (by decide +kernel) ha (he := he) (hpl := hpl)
  case str => exact pe_callTy rb_str hg hm (by decide +kernel) ha (he := he) (hpl := hpl)
  case bool => exact pe_callTy rb_bool hg hm (by decide +kernel) ha (he := he) (hpl := hpl)

/-! ### isinstance -/
theorem isTy_ok (t : Ty) (d : D) : (match t with | .int => (toP d).isInt | .bool => (toP d).isBool | .str => (toP d).isStr | .tuple => (toP d).isTuple | .list => (toP d).isList | .dict => (toP d).isDict) = isTy t d := by
  cases t <;> cases d <;> rfl
theorem rb_isi (t : Ty) : CallR X (.builtin "isinstance") (fun xs H Q => ∃ a x F, xs = [x, .ty t.name] ∧ Le F H ∧ Rp X.K F x a ∧ Q (.bl (isTy t a)) H) := by
  intro pins s σ H xs us Q I r h
  obtain ⟨a, x, F, rfl, l, ra, q⟩ := h
  obtain ⟨u, w, rfl, r1, r2⟩ := vals2 r
  have e : w = .type t.name := r2
  subst e
  obtain ⟨as, rd⟩ := (ra.le l).reads I r1
  have fin : ∀ (tk : Nat) (b : Bool), b = isTy t a → EP X pins σ Q (.bool b) { s with toks := tk } := fun tk b e => ⟨.bl _, H, I.tok tk, rfl, by rw [e]; exact q⟩
  cases t
  · exact PySem.W.isinstance_int_data rd fun tk _ => fin tk _ (isTy_ok .int a)
  · exact PySem.W.isinstance_bool_data rd fun tk _ => fin tk _ (isTy_ok .bool a)
  · exact PySem.W.isinstance_str_data rd fun tk _ => fin tk _ (isTy_ok .str a)
  · exact PySem.W.isinstance_tuple_data rd fun tk _ => fin tk _ (isTy_ok .tuple a)
  · exact PySem.W.isinstance_list_data rd fun tk _ => fin tk _ (isTy_ok .list a)
  · exact PySem.W.isinstance_dict_data rd fun tk _ => fin tk _ (isTy_ok .dict a)

/-! ### methods -/
abbrev RM (X : Cx) (m : Me) : V → List V → Hp → VK → Prop := fun x xs H Q => ∃ a ds d, opMe m a ds = some d ∧ ∃ F : Hp, Le F H ∧ Rp X.K F x a ∧ Rps X.K F xs ds ∧ ∀ v H', Res X.K true F H d v H' → Q v H'
theorem join_txt (x : List Nat) (zs : List (List Nat)) : Txt.join (mkS x) (zs.map mkS) = mkS (TL.joinL x zs) := by
  apply TL.ext_tl
  rw [TL.join_eq, TL.tl_join]
  have e : (zs.map mkS).map TL.tl = zs := by
    rw [List.map_map]
    have : (TL.tl ∘ mkS) = id := by funext l; rfl
    rw [this, List.map_id]
  rw [e]
theorem rm_join : MtR X "str.join" (RM X .join) := by
  intro pins s σ H x xs v us Q I rx r h
  obtain ⟨a, ds, d, e, F, l, ra, rs, q⟩ := h
  match a, ds, e with
  | .str x, [.lst ys], e =>
    obtain ⟨zs, e1, e2⟩ := Option.bind_eq_some_iff.mp e
    obtain ⟨hz, rfl⟩ := gd_some e2
    cases ra.str
    obtain ⟨w, rfl, r1⟩ := one_of rs
    obtain ⟨p, vs, rfl, hp, rp⟩ := r1.lst
    cases strs_of e1 rp
    refine mt_join pins s σ H _ _ v us Q I rx r ⟨mkS x, p, zs.map mkS, rfl, rfl, .inl (SqL.of (l _ _ hp)), ?_, ?_⟩
    · rw [List.map_map, List.length_map, mkS_len]
      have : ((fun x => x.length) ∘ mkS) = (fun z : List Nat => z.length) := by funext z; exact mkS_len z
      rw [this]
      exact hz
    · rw [join_txt]
      exact q _ _ (.old fun _ => .mstr _)
theorem rm_count : MtR X "str.count" (RM X .count) := by
  intro pins s σ H x xs v us Q I rx r h
  obtain ⟨a, ds, d, e, F, l, ra, rs, q⟩ := h
  match a, ds, e with
  | .str x, [.str y], e =>
    cases Option.some.inj e
    cases ra.str
    obtain ⟨w, rfl, r1⟩ := one_of rs
    cases r1.str
    exact mt_count pins s σ H _ _ v us Q I rx r ⟨_, _, rfl, rfl, q _ _ (.old fun _ => .mint _)⟩
theorem rm_find : MtR X "str.find" (RM X .find) := by
  intro pins s σ H x xs v us Q I rx r h
  obtain ⟨a, ds, d, e, F, l, ra, rs, q⟩ := h
  match a, ds, e with
  | .str x, [.str y], e =>
    cases Option.some.inj e
    cases ra.str
    obtain ⟨w, rfl, r1⟩ := one_of rs
    cases r1.str
    exact mt_find pins s σ H _ _ v us Q I rx r ⟨_, _, rfl, rfl, q _ _ (.old fun _ => .mint _)⟩
  | .str x, [.str y, .int i], e =>
    cases Option.some.inj e
    cases ra.str
    obtain ⟨w, z, rfl, r1, r2⟩ := two_of rs
    cases r1.str
    cases r2.int
    exact mt_find3 pins s σ H _ _ v us Q I rx r ⟨_, _, _, rfl, rfl, q _ _ (.old fun _ => .mint _)⟩
theorem rm_startswith : MtR X "str.startswith" (RM X .startswith) := by
  intro pins s σ H x xs v us Q I rx r h
  obtain ⟨a, ds, d, e, F, l, ra, rs, q⟩ := h
  match a, ds, e with
  | .str x, [.str y], e =>
    cases Option.some.inj e
    cases ra.str
    obtain ⟨w, rfl, r1⟩ := one_of rs
    cases r1.str
    exact mt_startswith pins s σ H _ _ v us Q I rx r ⟨_, _, rfl, rfl, q _ _ (.old fun _ => .mbl _)⟩
theorem rm_endswith : MtR X "str.endswith" (RM X .endswith) := by
  intro pins s σ H x xs v us Q I rx r h
  obtain ⟨a, ds, d, e, F, l, ra, rs, q⟩ := h
  match a, ds, e with
  | .str x, [.str y], e =>
    cases Option.some.inj e
    cases ra.str
    obtain ⟨w, rfl, r1⟩ := one_of rs
    cases r1.str
    exact mt_endswith pins s σ H _ _ v us Q I rx r ⟨_, _, rfl, rfl, q _ _ (.old fun _ => .mbl _)⟩
theorem rm_index : MtR X "list.index" (RM X .index) := by
  intro pins s σ H x xs v us Q I rx r h
  obtain ⟨a, ds, d, e, F, l, ra, rs, q⟩ := h
  match a, ds, e with
  | .lst ys, [y], e =>
    obtain ⟨j, e1, e2⟩ := Option.bind_eq_some_iff.mp e
    obtain ⟨hf, rfl⟩ := gd_some e2
    rw [Bool.and_eq_true] at hf
    obtain ⟨w, rfl, r1⟩ := one_of rs
    obtain ⟨p, vs, rfl, hp, rp⟩ := ra.lst
    obtain ⟨hj, h1, h2⟩ := List.findIdx?_eq_some_iff_getElem.mp e1
    obtain ⟨z, hz, rz⟩ := rp.get (i := j) (d := ys[j]) (by simp [hj])
    have fl : ∀ {m : Nat} {u : D}, ys[m]? = some u → flatD u = true := fun {m u} e => List.all_eq_true.mp hf.2 u (List.mem_of_getElem? e)
    refine mt_index pins s σ H _ _ v us Q I rx r ⟨p, vs, w, j, z, rfl, rfl, SqL.of (l _ _ hp), flat_ok r1 hf.1, flats_ok rp hf.2, hz, ?_, fun m z' hm hz' => ?_, q _ _ (.old fun _ => .mint _)⟩
    · rw [eqV_ok rz r1 (fl (m := j) (by simp [hj])) hf.1]
      exact h1
    · obtain ⟨u, hu, ru⟩ := rp.get' hz'
      have hm' : m < ys.length := by omega
      have eu : ys[m] = u := by
        have := List.getElem?_eq_getElem hm'
        rw [this] at hu
        exact Option.some.inj hu
      rw [eqV_ok ru r1 (fl hu) hf.1, ← eu]
      have := h2 m hm
      simpa using this
/-- the class whose method it is -/
def Me.cls : Me → String
  | .index => "list"
  | _ => "str"
/-- the call of a built-in's method, by the receiver's kind -/
theorem pe_me {m : Me} {o e : Expr} {es : List Expr} {to : TE} {t : TA} {apos cpos : Pos} (ho : PE X o to) (ha : PA X (e :: es) t)
    (hbase : attributeBase o m.name X.env (eval o X.env) = eval o X.env)
    (hfew : ((backTo cpos (starEach (e :: es) X.env)).all (fun x => !x.1) && (backToKw cpos (keywordEach [] X.env)).all (fun x => x.1.isSome)
      && decide ((e :: es).length + ([] : List Keyword).length + (if ([] : List Keyword).isEmpty then 0 else 1) < 30)) = true)
    (hline : (apos.endLine == cpos.line) = true) (hs : starEach (e :: es) X.env = (false, eval e X.env) :: starEach es X.env) (hplain : (backTo cpos (starEach es X.env)).any (·.1) = false) :
    PE X (.Call (.Attribute o m.name apos) (e :: es) [] cpos) (tBM X.K m.cls (RM X m) to t) := by
  cases m
  case join => exact pe_bm PySem.F.plainAttrs_str PySem.F.slot_str_join PySem.F.type_str_join rm_join ho ha hbase hfew hline hs hplain
  case count => exact pe_bm PySem.F.plainAttrs_str PySem.F.slot_str_count PySem.F.type_str_count rm_count ho ha hbase hfew hline hs hplain
  case find => exact pe_bm PySem.F.plainAttrs_str PySem.F.slot_str_find PySem.F.type_str_find rm_find ho ha hbase hfew hline hs hplain
  case startswith => exact pe_bm PySem.F.plainAttrs_str PySem.F.slot_str_startswith PySem.F.type_str_startswith rm_startswith ho ha hbase hfew hline hs hplain
  case endswith => exact pe_bm PySem.F.plainAttrs_str PySem.F.slot_str_endswith PySem.F.type_str_endswith rm_endswith ho ha hbase hfew hline hs hplain
  case index => exact pe_bm PySem.F.plainAttrs_list PySem.F.slot_list_index PySem.F.type_list_index rm_index ho ha hbase hfew hline hs hplain
theorem cls_ok {m : Me} {a : D} {ds : List D} {d : D} (e : opMe m a ds = some d) (l : Le F H) (h : Rp K F x a) : tyV K m.cls x H := by
  cases m <;> cases a <;> first | (simp [opMe] at e; done) | skip
  all_goals first
    | (cases h.str; rfl)
    | (obtain ⟨p, vs, rfl, hp, rp⟩ := h.lst; exact .inl ⟨rfl, vs, SqL.of (l _ _ hp)⟩)
end
end Pu
set_option Elab.async false
set_option linter.all false
set_option maxRecDepth 100000
namespace Pu
open PySem PySem.Spec PyProof.Rows L2

/-! ### the text's forms -/
section
variable {N : List Str} {sc : Scope} {e : Expr}
theorem ok_star {ex : Ex} (h : okE N sc ex e = true) (es : List Expr) (env : PySem.Env) : starEach (e :: es) env = (false, eval e env) :: starEach es env := by
  cases e <;> first | rfl | (cases ex <;> simp [okE] at h)
theorem ok_stars {pos : Pos} {env : PySem.Env} : ∀ {es : Exs} {l : List Expr}, okEs N sc es l = true → (backTo pos (starEach l env)).any (·.1) = false ∧ (backTo pos (starEach l env)).all (fun x => !x.1) = true ∧ l.length = exLen es
  | .nil, [], _ => ⟨rfl, rfl, rfl⟩
  | .nil, _ :: _, h => by simp [okEs] at h
  | .cons _ _, [], h => by simp [okEs] at h
  | .cons ex es, e :: l, h => by
    rw [okEs, Bool.and_eq_true] at h
    obtain ⟨h1, h2, h3⟩ := ok_stars (pos := pos) (env := env) h.2
    rw [ok_star h.1]
    refine ⟨?_, ?_, ?_⟩
    · show (false || (backTo pos (starEach l env)).any (·.1)) = false
      rw [h1] <;> rfl
    · show (true && (backTo pos (starEach l env)).all (fun x => !x.1)) = true
      rw [h2] <;> rfl
    · rw [List.length_cons, h3, exLen]
theorem ok_base {ex : Ex} {x : Str} {env : PySem.Env} {w : Sem Value} (h : okE N sc ex e = true) : attributeBase e x env w = w := by
  cases e with
  | Call f l kw p =>
    cases f with
    | Name y q =>
      cases l with
      | cons a r => rfl
      | nil =>
        cases kw with
        | cons a r => rfl
        | nil =>
          cases ex <;> simp [okE] at h
          · rename_i f n F es
            obtain ⟨⟨_, _⟩, ⟨h1, h2⟩, h3⟩ := h
            cases es with
            | nil => rw [exLen] at h1; omega
            | cons a b => simp [okEs] at h3
          · rename_i f es
            obtain ⟨⟨_, _⟩, h2, h3⟩ := h
            cases es with
            | nil => rw [exLen] at h2; omega
            | cons a b => simp [okEs] at h3
    | _ => rfl
  | _ => rfl
theorem ok_fold {wk : Wk} {env : PySem.Env} (h : okW N sc wk e = true) : ∀ x, foldedSetIterable e env x = pure x := by
  intro x
  cases e with
  | Set l k p =>
    cases wk with
    | rng es => simp [okW] at h
    | ex ex => rw [okW] at h; cases ex <;> simp [okE] at h
  | _ => rfl
theorem ok_vis {x : Str} (h : visB sc x = true) : Vis sc x ∧ (x == ("__debug__" : Str)) = false ∧ (x == ("__classdict__" : Str)) = false := by
  unfold visB at h
  simp only [Bool.and_eq_true, Bool.not_eq_true'] at h
  obtain ⟨h1, h2, h3⟩ := h
  refine ⟨?_, h2, h3⟩
  unfold Vis
  split at h1 <;> first | (simp_all; done) | cases h1
theorem ok_gl {x : Str} (h : glB sc x = true) : sc.names.lookup x = some .globalImplicit ∧ (x == ("__debug__" : Str)) = false ∧ x ≠ "__name__" := by
  unfold glB at h
  simp only [Bool.and_eq_true, Bool.not_eq_true'] at h
  obtain ⟨h1, h2, h3⟩ := h
  refine ⟨?_, h2, fun e => ?_⟩
  · split at h1 <;> first | assumption | cases h1
  · rw [e] at h3
    simp at h3
end

/-! ### what is known around -/
def bltNames : List Str := ["len", "sum", "max", "min", "all", "any", "abs", "sorted", "tuple", "list", "int", "str", "bool", "range", "isinstance", "dict", "set"]
structure Cxt (k : Nat) (X : Cx) : Prop where
  calm : X.calm = true
  nd : X.N.Nodup
  room : Room k X.A
  blt : ∀ x ∈ bltNames, X.mg x = none
/-- what a def promises: F of the arguments -/
def spOf (K : PySem.W.Frag) (n : Nat) (F : Fnc) (p : Bool) : Sp := fun vs H Q _ => ∃ hd pa pl ds d pl' vs', (∀ b ∈ pa, hd b) ∧ (∀ b, hd b → H b ≠ none) ∧ Sta H pa pl ∧ ds.length = n ∧
  (if p = true then ∃ q r, pa = q :: r ∧ vs = .ref q :: vs' else vs = vs') ∧ Rps K (vw H hd) vs' ds ∧ F ds pl = some (d, pl') ∧
  ∀ v H' pa', Sta H' pa' pl' → Grow pa H pa' H' → Rp K (vw H' (un hd pa')) v d → Q v H'
def HasF (k : Nat) (P : Program) (w : World) (K : PySem.W.Frag) (mg : Str → Option Value) (base : Heap) (f : Str) (n : Nat) (F : Fnc) (p : Bool) : Prop :=
  ∃ a fd ps, mg f = some (.ref a) ∧ PySem.W.keepIn K (.ref a) = true ∧ FnOk P w K mg base CX0 k a fd ps (spOf K n F p) ∧ Binds K fd ps []
def NeedOk (k : Nat) (P : Program) (w : World) (K : PySem.W.Frag) (mg : Str → Option Value) (base : Heap) : Need → Prop
  | .fn f n F p => HasF k P w K mg base f n F p
  | .gl x d => ∃ v u, mg x = some u ∧ RelV v u ∧ ∀ F, Rp K F v d
abbrev NeedX (k : Nat) (X : Cx) (n : Need) : Prop := NeedOk k X.prog X.w X.K X.mg X.base n

section
variable {X : Cx} {k : Nat} {e e2 e3 : Expr} {pos : Pos}
/-- an expression whose test is its value's truth -/
theorem plain_test {ex : Ex} (h : PE X e (RD X.K ex)) (he : ∀ whole, isTrue e X.env whole = (do let v ← whole; standAt e.pos; holding [v] (truthy v))) : PT X e (RT X.K ex) := by
  refine ⟨fun pins s σ H Q I hq => (pt_truth h he).run pins s σ H Q I ?_⟩
  obtain ⟨hd, pa, pl, env, d, b, pl', A, e1, t, q⟩ := hq
  exact ⟨hd, pa, pl, env, d, pl', A, e1, fun v H' pa' s g r => ⟨b, tru_of r vw_le t, q H' pa' s g⟩⟩
theorem s_var {i : Nat} {x : Str} (hN : X.N[i]? = some x) (hv : visB X.env.scope x = true) : PE X (.Name x pos) (RD X.K (.var i)) := by
  obtain ⟨h1, h2, h3⟩ := ok_vis hv
  refine ⟨fun pins s σ H Q I hq => (pe_var hN h1 h2 h3).run pins s σ H Q I ?_⟩
  obtain ⟨hd, pa, pl, env, d, pl', A, e1, q⟩ := hq
  obtain ⟨d', e2, e3⟩ := Option.map_eq_some_iff.mp (show (look env i).map (·, pl) = some (d, pl') from e1)
  cases e3
  obtain ⟨v, e4, r⟩ := A.see i (by simp [varsE]) d e2
  exact ⟨v, e4, q v H pa A.sta .refl (r.le (vw_anti fun b z => z.elim id (A.sub b)))⟩
theorem old_hid {K : PySem.W.Frag} {H : Hp} {hd : Addr → Prop} {pa : List Addr} {v : V} {d : D} (hs : ∀ b ∈ pa, hd b) (r : Rp K (vw H hd) v d) : Rp K (vw H (un hd pa)) v d := r.le (vw_anti fun b z => z.elim id (hs b))
theorem s_con {d : D} {c : Const} {j : Nat} (h : okC d c = true) : PE X (.Constant c j pos) (RD X.K (.con d)) := by
  refine ⟨fun pins s σ H Q I hq => ?_⟩
  obtain ⟨hd, pa, pl, env, d', pl', A, e1, q⟩ := hq
  cases (show some (d, pl) = some (d', pl') from e1)
  cases d with
  | non => cases c <;> first | (cases h; done) | exact pe_non.run pins s σ H Q I (q _ H pa A.sta .refl .mnon)
  | bl b =>
    cases c with
    | bool b' =>
      cases (eq_of_beq (show (b == b') = true from h))
      exact pe_bl.run pins s σ H Q I (q _ H pa A.sta .refl (.mbl _))
    | _ => cases h
  | int b =>
    cases c with
    | int b' =>
      cases (eq_of_beq (show (b == b') = true from h))
      exact pe_int.run pins s σ H Q I (q _ H pa A.sta .refl (.mint _))
    | _ => cases h
  | str b =>
    cases c with
    | str b' =>
      cases (of_decide_eq_true (show decide (b' = ⟨b.toArray⟩) = true from h))
      exact pe_str.run pins s σ H Q I (q _ H pa A.sta .refl (.mstr _))
    | _ => cases h
  | _ => cases c <;> cases h
theorem s_glob {x : Str} {d : D} (hg : glB X.env.scope x = true) (hn : NeedX k X (.gl x d)) : PE X (.Name x pos) (RD X.K (.glob x d)) := by
  obtain ⟨h1, h2, h3⟩ := ok_gl hg
  obtain ⟨v, u, g1, g2, g3⟩ := hn
  refine ⟨fun pins s σ H Q I hq => (pe_glob h1 g1 g2 h2).run pins s σ H Q I ?_⟩
  obtain ⟨hd, pa, pl, env, d', pl', A, e1, q⟩ := hq
  cases (show some (d, pl) = some (d', pl') from e1)
  exact q v H pa A.sta .refl (g3 _)
theorem bind2 {α β γ : Type} {a : Option α} {f : α → Option β} {c : β} (h : a.bind f = some c) : ∃ b, a = some b ∧ f b = some c := Option.bind_eq_some_iff.mp h
theorem map1 {α β : Type} {a : Option α} {f : α → β} {c : β} (h : a.map f = some c) : ∃ b, a = some b ∧ f b = c := Option.map_eq_some_iff.mp h
theorem s_bin {op : Operator} {a b : Ex} (ha : PE X e (RD X.K a)) (hb : PE X e2 (RD X.K b)) : PE X (.BinOp e op e2 pos) (RD X.K (.bin op a b)) := by
  refine ⟨fun pins s σ H Q I hq => (pe_op (r2_bin op) ha hb).run pins s σ H Q I ?_⟩
  obtain ⟨hd, pa, pl, env, d, pl', A, e1, q⟩ := hq
  rw [evE] at e1
  obtain ⟨⟨da, pl1⟩, ea, e1⟩ := Option.bind_eq_some_iff.mp e1
  obtain ⟨⟨db, pl2⟩, eb, e1⟩ := Option.bind_eq_some_iff.mp e1
  obtain ⟨d', eo, e1⟩ := map1 e1
  cases e1
  refine RD.mk A (fun i h => by simp [varsE, h]) ea fun x H1 pa1 A1 g1 r1 => ?_
  refine RD.mk A1 (fun i h => by simp [varsE, h]) eb fun y H2 pa2 A2 g2 r2 => ?_
  refine ⟨da, db, _, eo, _, vw_le, r1.le (g2.le A1.sub), r2, fun v H3 hr => ?_⟩
  obtain ⟨f1, f2, f3⟩ := A2.fin hr
  exact q v H3 pa2 f1 ((g1.trans g2).trans f2) (f3.le le_un)
theorem s_neg {a : Ex} (ha : PE X e (RD X.K a)) : PE X (.UnaryOp .USub e pos) (RD X.K (.neg a)) := by
  refine ⟨fun pins s σ H Q I hq => (pe_un un_neg ha).run pins s σ H Q I ?_⟩
  obtain ⟨hd, pa, pl, env, d, pl', A, e1, q⟩ := hq
  rw [evE] at e1
  obtain ⟨⟨da, pl1⟩, ea, e1⟩ := Option.bind_eq_some_iff.mp e1
  refine RD.mk A (fun i h => by simp [varsE, h]) ea fun x H1 pa1 A1 g1 r1 => ?_
  cases da <;> first | (cases e1; done) | skip
  cases e1
  cases r1.int
  exact ⟨_, rfl, q _ H1 pa1 A1.sta g1 (.mint _)⟩
theorem s_cmp (C : Cxt k X) {op : CmpOp} {a b : Ex} (hb' : behindInMarks op e2 = false) (ha : PE X e (RD X.K a)) (hb : PE X e2 (RD X.K b)) :
    PE X (.Compare e [op] [e2] pos) (RD X.K (.cmp op a b)) ∧ PT X (.Compare e [op] [e2] pos) (RT X.K (.cmp op a b)) := by
  have key : ∀ {σ : L2.St} {H : Hp} {hd : Addr → Prop} {pa : List Addr} {pl : Pool} {env : Env} {d : D} {pl' : Pool} {R : V → Hp → Prop}, At X.K σ env (varsE (.cmp op a b)) H hd pa pl → evE (.cmp op a b) env pl = some (d, pl') →
      (∀ b H' pa', d = .bl b → Sta H' pa' pl' → Grow pa H pa' H' → R (.bl b) H') →
      tOp (fun x y H Q => ∃ a b k, opCmp op a b = some k ∧ R2D X.K true a b (.bl k) x y H Q) (RD X.K a) (RD X.K b) σ H R := by
    intro σ H hd pa pl env d pl' R A e1 q
    rw [evE] at e1
    obtain ⟨⟨da, pl1⟩, ea, e1⟩ := Option.bind_eq_some_iff.mp e1
    obtain ⟨⟨db, pl2⟩, eb, e1⟩ := Option.bind_eq_some_iff.mp e1
    obtain ⟨d', eo, e1⟩ := map1 e1
    cases e1
    refine RD.mk A (fun i h => by simp [varsE, h]) ea fun x H1 pa1 A1 g1 r1 => ?_
    refine RD.mk A1 (fun i h => by simp [varsE, h]) eb fun y H2 pa2 A2 g2 r2 => ?_
    refine ⟨da, db, _, eo, _, vw_le, r1.le (g2.le A1.sub), r2, fun v H3 hr => ?_⟩
    obtain ⟨f1, f2, f3⟩ := A2.fin hr
    cases f3.bl
    exact q _ H3 pa2 rfl f1 ((g1.trans g2).trans f2)
  refine ⟨⟨fun pins s σ H Q I hq => (pe_cmpR (r2_cmp C.room.units op) ha hb hb').run pins s σ H Q I ?_⟩, ⟨fun pins s σ H Q I hq => (pt_cmpR (r2_cmp C.room.units op) ha hb hb').run pins s σ H Q I ?_⟩⟩
  · obtain ⟨hd, pa, pl, env, d, pl', A, e1, q⟩ := hq
    refine key A e1 fun b H' pa' ed s g => ?_
    subst ed
    exact q _ H' pa' s g (.mbl _)
  · obtain ⟨hd, pa, pl, env, d, k, pl', A, e1, t, q⟩ := hq
    refine key A e1 fun b H' pa' ed s g => ?_
    subst ed
    cases Option.some.inj t
    exact ⟨_, rfl, q H' pa' s g⟩
end
end Pu
set_option Elab.async false
set_option linter.all false
set_option maxRecDepth 100000
namespace Pu
open PySem PySem.Spec PyProof.Rows L2

section
variable {X : Cx} {k : Nat} {e e2 e3 : Expr} {pos : Pos} {N : List Str} {sc : Scope}
theorem ok_behind {ex : Ex} {op : CmpOp} (h : okE N sc ex e = true) : behindInMarks op e = false := by
  cases e with
  | Set a b c => cases ex <;> simp [okE] at h
  | _ => rfl
theorem s_chn (C : Cxt k X) {o1 o2 : CmpOp} {a b c : Ex} (hm : lastMarks [o1, o2] [e2, e3] = false) (ha : PE X e (RD X.K a)) (hb : PE X e2 (RD X.K b)) (hc : PE X e3 (RD X.K c)) :
    PE X (.Compare e [o1, o2] [e2, e3] pos) (RD X.K (.chn o1 o2 a b c)) ∧ PT X (.Compare e [o1, o2] [e2, e3] pos) (RT X.K (.chn o1 o2 a b c)) := by
  have key : ∀ {σ : L2.St} {H : Hp} {hd : Addr → Prop} {pa : List Addr} {pl : Pool} {env : Env} {d : D} {pl' : Pool} {R : V → Hp → Prop}, At X.K σ env (varsE (.chn o1 o2 a b c)) H hd pa pl → evE (.chn o1 o2 a b c) env pl = some (d, pl') →
      (∀ b H' pa', d = .bl b → Sta H' pa' pl' → Grow pa H pa' H' → R (.bl b) H') →
      tChain (fun x y H Q => ∃ a b k, opCmp o1 a b = some k ∧ R2D X.K true a b (.bl k) x y H Q) (fun x y H Q => ∃ a b k, opCmp o2 a b = some k ∧ R2D X.K true a b (.bl k) x y H Q) (RD X.K a) (RD X.K b) (RD X.K c) σ H R := by
    intro σ H hd pa pl env d pl' R A e1 q
    rw [evE] at e1
    obtain ⟨⟨da, pl1⟩, ea, e1⟩ := Option.bind_eq_some_iff.mp e1
    obtain ⟨⟨db, pl2⟩, eb, e1⟩ := Option.bind_eq_some_iff.mp e1
    obtain ⟨kk, eo, e1⟩ := Option.bind_eq_some_iff.mp e1
    refine RD.mk A (fun i h => by simp [varsE, h]) ea fun x H1 pa1 A1 g1 r1 => ?_
    refine RD.mk A1 (fun i h => by simp [varsE, h]) eb fun y H2 pa2 A2 g2 r2 => ?_
    refine ⟨da, db, kk, eo, _, vw_le, r1.le (g2.le A1.sub), r2, fun v H3 hr => ?_⟩
    obtain ⟨f1, f2, f3⟩ := A2.fin hr
    cases f3.bl
    refine ⟨kk, rfl, ?_⟩
    have A3 := A2.next f1 f2
    cases kk with
    | false =>
      rw [if_neg Bool.false_ne_true] at e1 ⊢
      cases e1
      exact q _ H3 pa2 rfl f1 ((g1.trans g2).trans f2)
    | true =>
      rw [if_pos rfl] at e1 ⊢
      obtain ⟨⟨dc, pl3⟩, ec, e1⟩ := Option.bind_eq_some_iff.mp e1
      obtain ⟨d', eo', e1⟩ := map1 e1
      cases e1
      refine RD.mk A3 (fun i h => by simp [varsE, h]) ec fun z H4 pa4 A4 g4 r4 => ?_
      refine ⟨db, dc, _, eo', _, vw_le, (r2.le (f2.le A2.sub)).le (g4.le A3.sub), r4, fun v' H5 hr' => ?_⟩
      obtain ⟨f1', f2', f3'⟩ := A4.fin hr'
      cases f3'.bl
      exact q _ H5 pa4 rfl f1' ((((g1.trans g2).trans f2).trans g4).trans f2')
  refine ⟨⟨fun pins s σ H Q I hq => (pe_chain (r2_cmp C.room.units o1) (r2_cmp C.room.units o2) ha hb hc hm).run pins s σ H Q I ?_⟩, ⟨fun pins s σ H Q I hq => (pt_chain (r2_cmp C.room.units o1) (r2_cmp C.room.units o2) ha hb hc hm).run pins s σ H Q I ?_⟩⟩
  · obtain ⟨hd, pa, pl, env, d, pl', A, e1, q⟩ := hq
    refine key A e1 fun b H' pa' ed s g => ?_
    subst ed
    exact q _ H' pa' s g (.mbl _)
  · obtain ⟨hd, pa, pl, env, d, k, pl', A, e1, t, q⟩ := hq
    refine key A e1 fun b H' pa' ed s g => ?_
    subst ed
    cases Option.some.inj t
    exact ⟨_, rfl, q H' pa' s g⟩
theorem s_isK {n : Bool} {a : Ex} {kd : D} {c : Const} {j : Nat} {p2 : Pos} (hk : okC kd c = true) (ha : PE X e (RD X.K a)) :
    PE X (.Compare e [if n = true then .IsNot else .Is] [.Constant c j p2] pos) (RD X.K (.isK n a kd)) ∧ PT X (.Compare e [if n = true then .IsNot else .Is] [.Constant c j p2] pos) (RT X.K (.isK n a kd)) := by
  have hb : PE X (.Constant c j p2) (RD X.K (.con kd)) := s_con hk
  have key : ∀ {σ : L2.St} {H : Hp} {hd : Addr → Prop} {pa : List Addr} {pl : Pool} {env : Env} {d : D} {pl' : Pool} {R : V → Hp → Prop}, At X.K σ env (varsE (.isK n a kd)) H hd pa pl → evE (.isK n a kd) env pl = some (d, pl') →
      (∀ b H' pa', d = .bl b → Sta H' pa' pl' → Grow pa H pa' H' → R (.bl b) H') →
      tOp (fun x y H Q => ∃ a k, isKD a kd = some k ∧ R2D X.K true a kd (.bl (if n = true then !k else k)) x y H Q) (RD X.K a) (RD X.K (.con kd)) σ H R := by
    intro σ H hd pa pl env d pl' R A e1 q
    rw [evE] at e1
    obtain ⟨⟨da, pl1⟩, ea, e1⟩ := Option.bind_eq_some_iff.mp e1
    obtain ⟨kk, eo, e1⟩ := map1 e1
    cases e1
    refine RD.mk A (fun i h => by simp [varsE, h]) ea fun x H1 pa1 A1 g1 r1 => ?_
    refine RD.mk A1 (d := kd) (pl1 := pl1) (fun i h => by simp [varsE] at h) (by rw [evE]) fun y H2 pa2 A2 g2 r2 => ?_
    refine ⟨da, kk, eo, _, vw_le, r1.le (g2.le A1.sub), r2, fun v H3 hr => ?_⟩
    obtain ⟨f1, f2, f3⟩ := A2.fin hr
    cases f3.bl
    exact q _ H3 pa2 rfl f1 ((g1.trans g2).trans f2)
  have hm : behindInMarks (if n = true then .IsNot else .Is) (.Constant c j p2) = false := rfl
  refine ⟨⟨fun pins s σ H Q I hq => (pe_cmpR (r2_is n kd) ha hb hm).run pins s σ H Q I ?_⟩, ⟨fun pins s σ H Q I hq => (pt_cmpR (r2_is n kd) ha hb hm).run pins s σ H Q I ?_⟩⟩
  · obtain ⟨hd, pa, pl, env, d, pl', A, e1, q⟩ := hq
    refine key A e1 fun b H' pa' ed s g => ?_
    subst ed
    exact q _ H' pa' s g (.mbl _)
  · obtain ⟨hd, pa, pl, env, d, k, pl', A, e1, t, q⟩ := hq
    refine key A e1 fun b H' pa' ed s g => ?_
    subst ed
    cases Option.some.inj t
    exact ⟨_, rfl, q H' pa' s g⟩
theorem s_not {a : Ex} (ha : PE X e (RD X.K a)) (hta : PT X e (RT X.K a)) : PE X (.UnaryOp .Not e pos) (RD X.K (.notE a)) ∧ PT X (.UnaryOp .Not e pos) (RT X.K (.notE a)) := by
  refine ⟨⟨fun pins s σ H Q I hq => (pe_notT ha).run pins s σ H Q I ?_⟩, ⟨fun pins s σ H Q I hq => (pt_not hta).run pins s σ H Q I ?_⟩⟩
  · obtain ⟨hd, pa, pl, env, d, pl', A, e1, q⟩ := hq
    rw [evE] at e1
    obtain ⟨⟨da, pl1⟩, ea, e1⟩ := Option.bind_eq_some_iff.mp e1
    obtain ⟨kk, eo, e1⟩ := map1 e1
    cases e1
    refine RD.mk A (fun i h => by simp [varsE, h]) ea fun x H1 pa1 A1 g1 r1 => ?_
    exact ⟨kk, tru_of r1 vw_le eo, q _ H1 pa1 A1.sta g1 (.mbl _)⟩
  · obtain ⟨hd, pa, pl, env, d, k, pl', A, e1, t, q⟩ := hq
    rw [evE] at e1
    obtain ⟨⟨da, pl1⟩, ea, e1⟩ := Option.bind_eq_some_iff.mp e1
    obtain ⟨kk, eo, e1⟩ := map1 e1
    cases e1
    cases Option.some.inj t
    exact RT.mk A (fun i h => by simp [varsE, h]) ea eo fun H1 pa1 A1 g1 => q H1 pa1 A1.sta g1
theorem pt_ifExp {c a b : Expr} {tc ta tb : TT} (hc : PT X c tc) (ha : PT X a ta) (hb : PT X b tb) : PT X (.IfExp c a b pos) (fun σ H Q => tc σ H fun z H1 => if z = true then ta σ H1 Q else tb σ H1 Q) := by
  refine ⟨fun pins s σ H Q I h => ?_⟩
  rw [PySem.isTrue]
  refine wpAny_bind (thn (hc.run pins s σ H _ I h) fun d s1 ⟨H1, I1, q1⟩ => ?_)
  cases d with
  | true => exact ha.run pins s1 σ H1 Q I1 q1
  | false => exact hb.run pins s1 σ H1 Q I1 q1
theorem s_ite {c a b : Ex} (hc : PT X e (RT X.K c)) (ha : PE X e2 (RD X.K a)) (hb : PE X e3 (RD X.K b)) (hta : PT X e2 (RT X.K a)) (htb : PT X e3 (RT X.K b)) :
    PE X (.IfExp e e2 e3 pos) (RD X.K (.ite c a b)) ∧ PT X (.IfExp e e2 e3 pos) (RT X.K (.ite c a b)) := by
  refine ⟨⟨fun pins s σ H Q I hq => (pe_ifExp hc ha hb).run pins s σ H Q I ?_⟩, ⟨fun pins s σ H Q I hq => (pt_ifExp hc hta htb).run pins s σ H Q I ?_⟩⟩
  · obtain ⟨hd, pa, pl, env, d, pl', A, e1, q⟩ := hq
    rw [evE] at e1
    obtain ⟨⟨dc, pl1⟩, ec, e1⟩ := Option.bind_eq_some_iff.mp e1
    obtain ⟨kk, et, e1⟩ := Option.bind_eq_some_iff.mp e1
    refine RT.mk A (fun i h => by simp [varsE, h]) ec et fun H1 pa1 A1 g1 => ?_
    cases kk with
    | true =>
      rw [if_pos rfl] at e1 ⊢
      exact RD.mk A1 (fun i h => by simp [varsE, h]) e1 fun v H2 pa2 A2 g2 r2 => q v H2 pa2 A2.sta (g1.trans g2) (r2.le le_un)
    | false =>
      rw [if_neg Bool.false_ne_true] at e1 ⊢
      exact RD.mk A1 (fun i h => by simp [varsE, h]) e1 fun v H2 pa2 A2 g2 r2 => q v H2 pa2 A2.sta (g1.trans g2) (r2.le le_un)
  · obtain ⟨hd, pa, pl, env, d, k, pl', A, e1, t, q⟩ := hq
    rw [evE] at e1
    obtain ⟨⟨dc, pl1⟩, ec, e1⟩ := Option.bind_eq_some_iff.mp e1
    obtain ⟨kk, et, e1⟩ := Option.bind_eq_some_iff.mp e1
    refine RT.mk A (fun i h => by simp [varsE, h]) ec et fun H1 pa1 A1 g1 => ?_
    cases kk with
    | true =>
      rw [if_pos rfl] at e1 ⊢
      exact RT.mk A1 (fun i h => by simp [varsE, h]) e1 t fun H2 pa2 A2 g2 => q H2 pa2 A2.sta (g1.trans g2)
    | false =>
      rw [if_neg Bool.false_ne_true] at e1 ⊢
      exact RT.mk A1 (fun i h => by simp [varsE, h]) e1 t fun H2 pa2 A2 g2 => q H2 pa2 A2.sta (g1.trans g2)

/-! ### displays, arguments -/
theorem a_nil : PA X [] (RA X.K .nil) := by
  refine ⟨fun pos pins s σ H Q I hq => pa_nil.run pos pins s σ H Q I ?_⟩
  obtain ⟨hd, pa, pl, env, ds, pl', A, e1, q⟩ := hq
  cases (show some (([] : List D), pl) = some (ds, pl') from by rw [evEs] at e1; exact e1)
  exact q [] H pa A.sta .refl .nil
theorem a_cons {a : Ex} {es : Exs} {l : List Expr} (ha : PE X e (RD X.K a)) (hes : PA X l (RA X.K es)) (hs : starEach (e :: l) X.env = (false, eval e X.env) :: starEach l X.env) : PA X (e :: l) (RA X.K (.cons a es)) := by
  refine ⟨fun pos pins s σ H Q I hq => (pa_cons ha hes hs).run pos pins s σ H Q I ?_⟩
  obtain ⟨hd, pa, pl, env, ds, pl', A, e1, q⟩ := hq
  rw [evEs] at e1
  obtain ⟨⟨da, pl1⟩, ea, e1⟩ := Option.bind_eq_some_iff.mp e1
  obtain ⟨⟨db, pl2⟩, eb, e1⟩ := map1 e1
  cases e1
  refine RD.mk A (fun i h => by simp [varsEs, h]) ea fun x H1 pa1 A1 g1 r1 => ?_
  refine RA.mk A1 (fun i h => by simp [varsEs, h]) eb fun xs H2 pa2 A2 g2 r2 => ?_
  exact q _ H2 pa2 A2.sta (g1.trans g2) (.cons ((r1.le (g2.le A1.sub)).le le_un) (r2.le le_un))
/-- .. told with what is new -/
def RDf (K : PySem.W.Frag) (ex : Ex) : TE := fun σ H Q => ∃ hd pa pl env d pl', At K σ env (varsE ex) H hd pa pl ∧ evE ex env pl = some (d, pl') ∧
  ∀ v H1 H' pa', Sta H1 pa' pl' → Grow pa H pa' H1 → At K σ env (varsE ex) H1 (un hd pa') pa' pl' → Res K true (vw H1 (un hd pa')) H1 d v H' → Q v H'
theorem RDf.rd {ex : Ex} (h : PE X e (RDf X.K ex)) : PE X e (RD X.K ex) := by
  refine ⟨fun pins s σ H Q I hq => h.run pins s σ H Q I ?_⟩
  obtain ⟨hd, pa, pl, env, d, pl', A, e1, q⟩ := hq
  refine ⟨hd, pa, pl, env, d, pl', A, e1, fun v H1 H' pa' s g A1 r => ?_⟩
  obtain ⟨f1, f2, f3⟩ := A1.fin r
  exact q v H' pa' f1 (g.trans f2) f3
theorem Res.up {K : PySem.W.Frag} {fr : Bool} {F F2 H H' : Hp} {d : D} {v : V} (l : Le F F2) (h : Res K fr F H d v H') : Res K fr F2 H d v H' := by
  rcases h with ⟨h1, h2, h3⟩ | ⟨p, vs, ds, h1, h2, h3, h4, h5⟩ | ⟨p, vs, ds, h1, h2, h3, h4, h5⟩
  · exact .inl ⟨h1, h2, fun F' l' => h3 F' (l.trans l')⟩
  · exact .inr (.inl ⟨p, vs, ds, h1, h2, h3, h4, h5.le l⟩)
  · exact .inr (.inr ⟨p, vs, ds, h1, h2, h3, h4, h5.le l⟩)
theorem f_bin {op : Operator} {a b : Ex} (ha : PE X e (RD X.K a)) (hb : PE X e2 (RD X.K b)) : PE X (.BinOp e op e2 pos) (RDf X.K (.bin op a b)) := by
  refine ⟨fun pins s σ H Q I hq => (pe_op (r2_bin op) ha hb).run pins s σ H Q I ?_⟩
  obtain ⟨hd, pa, pl, env, d, pl', A, e1, q⟩ := hq
  rw [evE] at e1
  obtain ⟨⟨da, pl1⟩, ea, e1⟩ := Option.bind_eq_some_iff.mp e1
  obtain ⟨⟨db, pl2⟩, eb, e1⟩ := Option.bind_eq_some_iff.mp e1
  obtain ⟨d', eo, e1⟩ := map1 e1
  cases e1
  refine RD.mk A (fun i h => by simp [varsE, h]) ea fun x H1 pa1 A1 g1 r1 => ?_
  refine RD.mk A1 (fun i h => by simp [varsE, h]) eb fun y H2 pa2 A2 g2 r2 => ?_
  have g := g1.trans g2
  refine ⟨da, db, _, eo, vw H2 (un hd pa2), vw_le, (r1.le (g2.le A1.sub)).le le_un, r2.le le_un, fun v H3 hr => ?_⟩
  exact q v H2 H3 pa2 A2.sta g (A.next A2.sta g) hr
theorem f_tup {es : Exs} {l : List Expr} {j : Nat} (h : PA X l (RA X.K es)) : PE X (.Tuple l j pos) (RDf X.K (.tup es)) := by
  refine ⟨fun pins s σ H Q I hq => (pe_tup h).run pins s σ H Q I ?_⟩
  obtain ⟨hd, pa, pl, env, d, pl', A, e1, q⟩ := hq
  rw [evE] at e1
  obtain ⟨⟨ds, pl1⟩, ea, e1⟩ := Option.bind_eq_some_iff.mp e1
  obtain ⟨hz, e1⟩ := gd_some e1
  cases e1
  refine RA.mk A (fun i h => by simp [varsE, h]) ea fun xs H1 pa1 A1 g1 r1 => ?_
  exact ⟨by rw [r1.length]; exact hz, fun p hp => q _ H1 _ pa1 A1.sta g1 A1 (.inr (.inr ⟨p, xs, ds, rfl, rfl, hp, rfl, r1⟩))⟩
theorem f_lst {es : Exs} {l : List Expr} (h : PA X l (RA X.K es)) : PE X (.List l pos) (RDf X.K (.lst es)) := by
  refine ⟨fun pins s σ H Q I hq => (pe_lst h).run pins s σ H Q I ?_⟩
  obtain ⟨hd, pa, pl, env, d, pl', A, e1, q⟩ := hq
  rw [evE] at e1
  obtain ⟨⟨ds, pl1⟩, ea, e1⟩ := Option.bind_eq_some_iff.mp e1
  obtain ⟨hz, e1⟩ := gd_some e1
  cases e1
  refine RA.mk A (fun i h => by simp [varsE, h]) ea fun xs H1 pa1 A1 g1 r1 => ?_
  exact ⟨by rw [r1.length]; exact hz, fun p hp => q _ H1 _ pa1 A1.sta g1 A1 (.inr (.inl ⟨p, xs, ds, rfl, rfl, hp, rfl, r1⟩))⟩

/-! ### subscripts, slices -/
theorem s_sub {a b : Ex} (hs : PlainIx e2) (ha : PE X e (RD X.K a)) (hb : PE X e2 (RD X.K b)) : PE X (.Subscript e e2 pos) (RD X.K (.sub a b)) := by
  refine ⟨fun pins s σ H Q I hq => (pe_ix r2_ix ha hb hs).run pins s σ H Q I ?_⟩
  obtain ⟨hd, pa, pl, env, d, pl', A, e1, q⟩ := hq
  rw [evE] at e1
  obtain ⟨⟨da, pl1⟩, ea, e1⟩ := Option.bind_eq_some_iff.mp e1
  obtain ⟨⟨db, pl2⟩, eb, e1⟩ := Option.bind_eq_some_iff.mp e1
  obtain ⟨d', eo, e1⟩ := map1 e1
  cases e1
  refine RD.mk A (fun i h => by simp [varsE, h]) ea fun x H1 pa1 A1 g1 r1 => ?_
  refine RD.mk A1 (fun i h => by simp [varsE, h]) eb fun y H2 pa2 A2 g2 r2 => ?_
  refine ⟨da, db, _, eo, _, vw_le, r1.le (g2.le A1.sub), r2, fun v H3 hr => ?_⟩
  obtain ⟨f1, f2, f3⟩ := A2.fin hr
  exact q v H3 pa2 f1 ((g1.trans g2).trans f2) (f3.le le_un)
theorem o_no : PO X none (RO X.K .no) := by
  refine ⟨fun pins s σ H Q I hq => po_none.run pins s σ H Q I ?_⟩
  obtain ⟨hd, pa, pl, env, o, pl', A, e1, q⟩ := hq
  cases (show some ((none : Option Int), pl) = some (o, pl') from by rw [evO] at e1; exact e1)
  exact q H pa A.sta .refl
theorem o_yes {a : Ex} (ha : PE X e (RD X.K a)) : PO X (some e) (RO X.K (.yes a)) := by
  refine ⟨fun pins s σ H Q I hq => (po_some ha).run pins s σ H Q I ?_⟩
  obtain ⟨hd, pa, pl, env, o, pl', A, e1, q⟩ := hq
  rw [evO] at e1
  obtain ⟨⟨da, pl1⟩, ea, e1⟩ := Option.bind_eq_some_iff.mp e1
  refine RD.mk A (fun i h => by simp [varsO, h]) ea fun x H1 pa1 A1 g1 r1 => ?_
  cases da <;> first | (cases e1; done) | skip
  cases e1
  cases r1.int
  exact ⟨_, rfl, q H1 pa1 A1.sta g1⟩
theorem f_sl {a : Ex} {lo hi : OEx} {l h : Option Expr} {p2 : Pos} (ha : PE X e (RD X.K a)) (hl : PO X l (RO X.K lo)) (hh : PO X h (RO X.K hi)) : PE X (.Subscript e (.Slice l h none p2) pos) (RDf X.K (.sl a lo hi)) := by
  refine ⟨fun pins s σ H Q I hq => (pe_slice r2_sl ha hl hh).run pins s σ H Q I ?_⟩
  obtain ⟨hd, pa, pl, env, d, pl', A, e1, q⟩ := hq
  rw [evE] at e1
  obtain ⟨⟨da, pl1⟩, ea, e1⟩ := Option.bind_eq_some_iff.mp e1
  obtain ⟨⟨o1, pl2⟩, eb, e1⟩ := Option.bind_eq_some_iff.mp e1
  obtain ⟨⟨o2, pl3⟩, ec, e1⟩ := Option.bind_eq_some_iff.mp e1
  obtain ⟨d', eo, e1⟩ := map1 e1
  cases e1
  refine RD.mk A (fun i h => by simp [varsE, h]) ea fun x H1 pa1 A1 g1 r1 => ?_
  refine RO.mk A1 (fun i h => by simp [varsE, h]) eb fun H2 pa2 A2 g2 => ?_
  refine RO.mk A2 (fun i h => by simp [varsE, h]) ec fun H3 pa3 A3 g3 => ?_
  have g := (g1.trans g2).trans g3
  have r2 : Rp X.K (vw H3 (un hd pa3)) x da := by
    have := (r1.le ((g2.trans g3).le A1.sub))
    exact this.le le_un
  exact ⟨da, _, eo, vw H3 (un hd pa3), vw_le, r2, fun v H4 hr => q v H3 H4 pa3 A3.sta g (A.next A3.sta g) hr⟩
theorem f_rev {a : Ex} {j : Nat} {p1 p2 p3 : Pos} (ha : PE X e (RD X.K a)) : PE X (.Subscript e (.Slice none none (some (.UnaryOp .USub (.Constant (.int 1) j p1) p2)) p3) pos) (RDf X.K (.rev a)) := by
  refine ⟨fun pins s σ H Q I hq => ?_⟩
  obtain ⟨hd, pa, pl, env, d, pl', A, e1, q⟩ := hq
  rw [evE] at e1
  obtain ⟨⟨da, pl1⟩, ea, e1⟩ := Option.bind_eq_some_iff.mp e1
  obtain ⟨d', eo, e1⟩ := map1 e1
  cases e1
  cases da <;> first | (cases eo; done) | skip
  · obtain ⟨hz, rfl⟩ := gd_some eo
    refine (pe_revS ha).run pins s σ H Q I ?_
    refine RD.mk A (fun i h => by simp [varsE, h]) ea fun x H1 pa1 A1 g1 r1 => ?_
    cases r1.str
    exact ⟨_, rfl, hz, q _ H1 _ pa1 A1.sta g1 A1 (.old fun _ => .mstr _)⟩
  · cases Option.some.inj eo
    refine (pe_revL ha).run pins s σ H Q I ?_
    refine RD.mk A (fun i h => by simp [varsE, h]) ea fun x H1 pa1 A1 g1 r1 => ?_
    obtain ⟨p, vs, rfl, hp, rp⟩ := r1.lst
    exact ⟨p, vs, rfl, SqL.of (vw_le _ _ hp), fun n hn => q _ H1 _ pa1 A1.sta g1 A1 (.inr (.inl ⟨n, _, _, rfl, rfl, hn, rfl, rp.reverse⟩))⟩
  · cases Option.some.inj eo
    refine (pe_revT ha).run pins s σ H Q I ?_
    refine RD.mk A (fun i h => by simp [varsE, h]) ea fun x H1 pa1 A1 g1 r1 => ?_
    obtain ⟨p, vs, rfl, hp, rp⟩ := r1.tup
    exact ⟨p, vs, rfl, SqT.le vw_le hp, fun n hn => q _ H1 _ pa1 A1.sta g1 A1 (.inr (.inr ⟨n, _, _, rfl, rfl, hn, rfl, rp.reverse⟩))⟩

/-! ### calls -/
theorem f_bi (C : Cxt k X) {f : Bi} {es : Exs} {l : List Expr} {p : Pos} (hg : glB X.env.scope f.name = true) (h : PA X (e :: l) (RA X.K es)) (he : starEach (e :: l) X.env = (false, eval e X.env) :: starEach l X.env)
    (hpl : (backTo pos (starEach l X.env)).any (·.1) = false) : PE X (.Call (.Name f.name p) (e :: l) [] pos) (RDf X.K (.bi f es)) := by
  have hm : X.mg f.name = none := C.blt _ (by cases f <;> simp [Bi.name, bltNames])
  refine ⟨fun pins s σ H Q I hq => (pe_bi C.calm C.room.units (ok_gl hg).1 hm h he hpl).run pins s σ H Q I ?_⟩
  obtain ⟨hd, pa, pl, env, d, pl', A, e1, q⟩ := hq
  rw [evE] at e1
  obtain ⟨⟨ds, pl1⟩, ea, e1⟩ := Option.bind_eq_some_iff.mp e1
  obtain ⟨d', eo, e1⟩ := map1 e1
  cases e1
  refine RA.mk A (fun i h => by simp [varsE, h]) ea fun xs H1 pa1 A1 g1 r1 => ?_
  exact ⟨ds, _, eo, _, vw_le, r1, fun v H2 hr => q v H1 H2 pa1 A1.sta g1 A1 hr⟩
theorem f_me {m : Me} {a : Ex} {es : Exs} {l : List Expr} {apos : Pos} {o : Expr} (ha : PE X o (RD X.K a)) (h : PA X (e :: l) (RA X.K es)) (hbase : attributeBase o m.name X.env (eval o X.env) = eval o X.env)
    (hfew : ((backTo pos (starEach (e :: l) X.env)).all (fun x => !x.1) && (backToKw pos (keywordEach [] X.env)).all (fun x => x.1.isSome)
      && decide ((e :: l).length + ([] : List Keyword).length + (if ([] : List Keyword).isEmpty then 0 else 1) < 30)) = true)
    (hline : (apos.endLine == pos.line) = true) (hs : starEach (e :: l) X.env = (false, eval e X.env) :: starEach l X.env) (hpl : (backTo pos (starEach l X.env)).any (·.1) = false) :
    PE X (.Call (.Attribute o m.name apos) (e :: l) [] pos) (RDf X.K (.me m a es)) := by
  refine ⟨fun pins s σ H Q I hq => (pe_me ha h hbase hfew hline hs hpl).run pins s σ H Q I ?_⟩
  obtain ⟨hd, pa, pl, env, d, pl', A, e1, q⟩ := hq
  rw [evE] at e1
  obtain ⟨⟨da, pl1⟩, ea, e1⟩ := Option.bind_eq_some_iff.mp e1
  obtain ⟨⟨ds, pl2⟩, eb, e1⟩ := Option.bind_eq_some_iff.mp e1
  obtain ⟨d', eo, e1⟩ := map1 e1
  cases e1
  refine RD.mk A (fun i h => by simp [varsE, h]) ea fun x H1 pa1 A1 g1 r1 => ?_
  refine ⟨cls_ok eo vw_le r1, ?_⟩
  refine RA.mk A1 (fun i h => by simp [varsE, h]) eb fun xs H2 pa2 A2 g2 r2 => ?_
  have g := g1.trans g2
  exact ⟨da, ds, _, eo, vw H2 (un hd pa2), vw_le, (r1.le (g2.le A1.sub)).le le_un, r2.le le_un, fun v H3 hr => q v H2 H3 pa2 A2.sta g (A.next A2.sta g) hr⟩
theorem ty_boot (t : Ty) : bootBuiltins (t.name : Str) = some (.type t.name) ∧ ((t.name : Str) ∈ bltNames) := by
  cases t <;> exact ⟨by decide +kernel, by decide +kernel⟩
theorem s_isi (C : Cxt k X) {a : Ex} {t : Ty} {p p2 : Pos} (hg : glB X.env.scope "isinstance" = true) (hg2 : glB X.env.scope (t.name : Str) = true) (ha : PE X e (RD X.K a))
    (hs : ∀ es, starEach (e :: es) X.env = (false, eval e X.env) :: starEach es X.env) : PE X (.Call (.Name "isinstance" p) [e, .Name (t.name : Str) p2] [] pos) (RD X.K (.isi a t)) := by
  obtain ⟨b1, b2⟩ := ty_boot t
  obtain ⟨c1, c2, c3⟩ := ok_gl hg2
  have hty : PE X (.Name (t.name : Str) p2) (tC (.ty t.name)) := pe_bltn c1 (C.blt _ b2) b1 rfl c3 c2
  have hargs : PA X [e, .Name (t.name : Str) p2] (tCons (RD X.K a) (tCons (tC (.ty t.name)) tNil)) := pa_cons ha (pa_cons hty pa_nil rfl) (hs _)
  refine ⟨fun pins s σ H Q I hq => (pe_callB (rb_isi t) (ok_gl hg).1 (C.blt _ (by simp [bltNames])) (by decide +kernel) hargs (he := hs _) (hpl := rfl)).run pins s σ H Q I ?_⟩
  obtain ⟨hd, pa, pl, env, d, pl', A, e1, q⟩ := hq
  rw [evE] at e1
  obtain ⟨⟨da, pl1⟩, ea, e1⟩ := Option.bind_eq_some_iff.mp e1
  cases e1
  refine RD.mk A (fun i h => by simp [varsE, h]) ea fun x H1 pa1 A1 g1 r1 => ?_
  exact ⟨da, x, _, rfl, vw_le, r1, q _ H1 pa1 A1.sta g1 (.mbl _)⟩
theorem evEs_len : ∀ {es : Exs} {env : Env} {pl pl' : Pool} {ds : List D}, evEs es env pl = some (ds, pl') → ds.length = exLen es
  | .nil, _, _, _, _, h => by rw [evEs] at h; cases h; rfl
  | .cons e es, env, pl, pl', ds, h => by
    rw [evEs] at h
    obtain ⟨⟨da, pl1⟩, ea, h⟩ := Option.bind_eq_some_iff.mp h
    obtain ⟨⟨db, pl2⟩, eb, h⟩ := map1 h
    cases h
    rw [List.length_cons, evEs_len eb, exLen]
theorem s_call (C : Cxt k X) {f : Str} {n : Nat} {F : Fnc} {es : Exs} {l : List Expr} {p : Pos} (hn : NeedX k X (.fn f n F false)) (hg : glB X.env.scope f = true) (hl : exLen es = n) (h : PA X (e :: l) (RA X.K es))
    (he : starEach (e :: l) X.env = (false, eval e X.env) :: starEach l X.env) (hpl : (backTo pos (starEach l X.env)).any (·.1) = false) : PE X (.Call (.Name f p) (e :: l) [] pos) (RD X.K (.call f n F es)) := by
  obtain ⟨a, fd, ps, h1, h2, h3, h4⟩ := hn
  obtain ⟨c1, c2, c3⟩ := ok_gl hg
  refine ⟨fun pins s σ H Q I hq => (pe_call (E := E0) h3 C.room c1 h1 h2 h4 .nil pass0 h c2 he hpl).run pins s σ H Q I ?_⟩
  obtain ⟨hd, pa, pl, env, d, pl', A, e1, q⟩ := hq
  rw [evE] at e1
  obtain ⟨⟨ds, pl1⟩, ea, e1⟩ := Option.bind_eq_some_iff.mp e1
  refine RA.mk A (fun i h => by simp [varsE, h]) ea fun xs H1 pa1 A1 g1 r1 => ?_
  rw [List.append_nil]
  refine ⟨un hd pa1, pa1, pl1, ds, d, pl', xs, A1.sub, A1.al, A1.sta, by rw [evEs_len ea]; exact hl, ?_, r1, e1, fun v H2 pa2 s2 g2 r2 => ?_⟩
  · rw [if_neg Bool.false_ne_true]
  · exact q v H2 pa2 s2 (g1.trans g2) (r2.le le_un)
theorem s_callP (C : Cxt k X) {f : Str} {n i : Nat} {F : Fnc} {es : Exs} {l : List Expr} {p p2 : Pos} {y : Str} (hn : NeedX k X (.fn f n F true)) (hg : glB X.env.scope f = true) (hl : exLen es = n) (hN : X.N[i]? = some y) (hv : visB X.env.scope y = true)
    (h : PA X l (RA X.K es)) (hpl : (backTo pos (starEach l X.env)).any (·.1) = false) : PE X (.Call (.Name f p) (.Name y p2 :: l) [] pos) (RD X.K (.callP f n F i es)) := by
  obtain ⟨a, fd, ps, h1, h2, h3, h4⟩ := hn
  obtain ⟨c1, c2, c3⟩ := ok_gl hg
  obtain ⟨v1, v2, v3⟩ := ok_vis hv
  have hargs : PA X (.Name y p2 :: l) (tCons (tVar i) (RA X.K es)) := pa_cons (pe_var hN v1 v2 v3) h rfl
  refine ⟨fun pins s σ H Q I hq => (pe_call (E := E0) h3 C.room c1 h1 h2 h4 .nil pass0 hargs c2 rfl hpl).run pins s σ H Q I ?_⟩
  obtain ⟨hd, pa, pl, env, d, pl', A, e1, q⟩ := hq
  rw [evE] at e1
  split at e1
  · rename_i hpool
    obtain ⟨⟨ds, pl1⟩, ea, e1⟩ := Option.bind_eq_some_iff.mp e1
    obtain ⟨pp, rr, ep, es'⟩ := A.pol i (by simp [varsE]) hpool
    refine ⟨_, es', ?_⟩
    refine RA.mk A (fun i h => by simp [varsE, h]) ea fun xs H1 pa1 A1 g1 r1 => ?_
    show spOf X.K n F true (V.ref pp :: xs ++ []) H1 Q E0
    rw [List.append_nil]
    refine ⟨un hd pa1, pa1, pl1, ds, d, pl', xs, A1.sub, A1.al, A1.sta, by rw [evEs_len ea]; exact hl, ?_, r1, e1, fun v H2 pa2 s2 g2 r2 => ?_⟩
    · rw [if_pos rfl]
      have e := g1.same (by rw [ep]; simp)
      exact ⟨pp, rr, by rw [e, ep], rfl⟩
    · exact q v H2 pa2 s2 (g1.trans g2) (r2.le le_un)
  · cases e1
end
end Pu
set_option Elab.async false
set_option linter.all false
set_option maxRecDepth 100000
namespace Pu
open PySem PySem.Spec PyProof.Rows L2

/-! ### and, or -/
def RDB (K : PySem.W.Frag) (isAnd : Bool) (es : Exs) : TE := fun σ H Q => ∃ hd pa pl env d pl', At K σ env (varsEs es) H hd pa pl ∧ evB isAnd es env pl = some (d, pl') ∧
  ∀ v H' pa', Sta H' pa' pl' → Grow pa H pa' H' → Rp K (vw H' (un hd pa')) v d → Q v H'
def RTB (K : PySem.W.Frag) (isAnd : Bool) (es : Exs) : TT := fun σ H Q => ∃ hd pa pl env d k pl', At K σ env (varsEs es) H hd pa pl ∧ evB isAnd es env pl = some (d, pl') ∧ truD d = some k ∧
  ∀ H' pa', Sta H' pa' pl' → Grow pa H pa' H' → Q k H'
section
variable {X : Cx} {k : Nat} {e e2 : Expr} {l : List Expr} {pos : Pos}
theorem b_one {isAnd : Bool} {a : Ex} (ha : PE X e (RD X.K a)) (hta : PT X e (RT X.K a)) :
    PE X (.BoolOp (if isAnd = true then .And else .Or) [e] pos) (RDB X.K isAnd (.cons a .nil)) ∧ PW X (.BoolOp (if isAnd = true then .And else .Or) [e] pos) (RTB X.K isAnd (.cons a .nil)) := by
  have conv : ∀ {σ : L2.St} {H : Hp} {Q : Bool → Hp → Prop}, RTB X.K isAnd (.cons a .nil) σ H Q → RT X.K a σ H Q := by
    intro σ H Q hq
    obtain ⟨hd, pa, pl, env, d, k, pl', A, e1, t, q⟩ := hq
    rw [evB] at e1
    exact ⟨hd, pa, pl, env, d, k, pl', A.mono (fun i h => by simp [varsEs, h]), e1, t, q⟩
  refine ⟨⟨fun pins s σ H Q I hq => (pe_one ha).run pins s σ H Q I ?_⟩, ?_⟩
  · obtain ⟨hd, pa, pl, env, d, pl', A, e1, q⟩ := hq
    rw [evB] at e1
    exact ⟨hd, pa, pl, env, d, pl', A.mono (fun i h => by simp [varsEs, h]), e1, q⟩
  · cases isAnd with
    | true => exact ⟨fun wh pins s σ H Q I hq => (pw_and1 hta).run wh pins s σ H Q I (conv hq)⟩
    | false => exact ⟨fun wh pins s σ H Q I hq => (pw_or1 hta).run wh pins s σ H Q I (conv hq)⟩
theorem b_cons {isAnd : Bool} {a b : Ex} {es : Exs} (ha : PE X e (RD X.K a)) (hta : PT X e (RT X.K a)) (hb : PE X (.BoolOp (if isAnd = true then .And else .Or) (e2 :: l) pos) (RDB X.K isAnd (.cons b es)))
    (htb : PW X (.BoolOp (if isAnd = true then .And else .Or) (e2 :: l) pos) (RTB X.K isAnd (.cons b es))) :
    PE X (.BoolOp (if isAnd = true then .And else .Or) (e :: e2 :: l) pos) (RDB X.K isAnd (.cons a (.cons b es))) ∧ PW X (.BoolOp (if isAnd = true then .And else .Or) (e :: e2 :: l) pos) (RTB X.K isAnd (.cons a (.cons b es))) := by
  have fin : ∀ {σ : L2.St} {H : Hp} {hd : Addr → Prop} {pa : List Addr} {pl pl' : Pool} {env : Env} {d : D} {Q : VK}, At X.K σ env (varsEs (.cons a (.cons b es))) H hd pa pl → evB isAnd (.cons a (.cons b es)) env pl = some (d, pl') →
      (∀ v H' pa', Sta H' pa' pl' → Grow pa H pa' H' → Rp X.K (vw H' (un hd pa')) v d → Q v H') →
      RD X.K a σ H fun x H1 => ∃ k, TruV X.K x H1 k ∧ if k = isAnd then RDB X.K isAnd (.cons b es) σ H1 Q else Q x H1 := by
    intro σ H hd pa pl pl' env d Q A e1 q
    rw [evB] at e1
    obtain ⟨⟨da, pl1⟩, ea, e1⟩ := Option.bind_eq_some_iff.mp e1
    obtain ⟨kk, et, e1⟩ := Option.bind_eq_some_iff.mp e1
    refine RD.mk A (fun i h => by simp [varsEs, h]) ea fun x H1 pa1 A1 g1 r1 => ⟨kk, tru_of r1 vw_le et, ?_⟩
    by_cases hk : kk = isAnd
    · rw [if_pos hk] at e1 ⊢
      exact ⟨un hd pa1, pa1, pl1, env, d, pl', A1.mono (fun i h => by simp only [varsEs, List.mem_append] at h ⊢; exact .inr h), e1, fun v H2 pa2 s2 g2 r2 => q v H2 pa2 s2 (g1.trans g2) (r2.le le_un)⟩
    · rw [if_neg hk] at e1 ⊢
      cases e1
      exact q x H1 pa1 A1.sta g1 r1
  have finT : ∀ {σ : L2.St} {H : Hp} {Q : Bool → Hp → Prop}, RTB X.K isAnd (.cons a (.cons b es)) σ H Q →
      RT X.K a σ H fun c H1 => if c = isAnd then RTB X.K isAnd (.cons b es) σ H1 Q else Q (!isAnd) H1 := by
    intro σ H Q hq
    obtain ⟨hd, pa, pl, env, d, k, pl', A, e1, t, q⟩ := hq
    rw [evB] at e1
    obtain ⟨⟨da, pl1⟩, ea, e1⟩ := Option.bind_eq_some_iff.mp e1
    obtain ⟨kk, et, e1⟩ := Option.bind_eq_some_iff.mp e1
    refine RT.mk A (fun i h => by simp [varsEs, h]) ea et fun H1 pa1 A1 g1 => ?_
    by_cases hk : kk = isAnd
    · rw [if_pos hk] at e1 ⊢
      exact ⟨un hd pa1, pa1, pl1, env, d, k, pl', A1.mono (fun i h => by simp only [varsEs, List.mem_append] at h ⊢; exact .inr h), e1, t, fun H2 pa2 s2 g2 => q H2 pa2 s2 (g1.trans g2)⟩
    · rw [if_neg hk] at e1 ⊢
      cases e1
      have ek : k = !isAnd := by
        have e2 : kk = k := Option.some.inj (et.symm.trans t)
        rw [← e2]
        cases kk <;> cases isAnd <;> first | rfl | exact absurd rfl hk
      rw [← ek]
      exact q H1 pa1 A1.sta g1
  cases isAnd with
  | true =>
    refine ⟨⟨fun pins s σ H Q I hq => (pe_andT ha hb).run pins s σ H Q I ?_⟩, ⟨fun wh pins s σ H Q I hq => (pw_and hta htb).run wh pins s σ H Q I ?_⟩⟩
    · obtain ⟨hd, pa, pl, env, d, pl', A, e1, q⟩ := hq
      exact fin A e1 q
    · exact finT hq
  | false =>
    refine ⟨⟨fun pins s σ H Q I hq => (pe_orT ha hb).run pins s σ H Q I ?_⟩, ⟨fun wh pins s σ H Q I hq => (pw_or hta htb).run wh pins s σ H Q I ?_⟩⟩
    · obtain ⟨hd, pa, pl, env, d, pl', A, e1, q⟩ := hq
      have f := fin A e1 q
      obtain ⟨hd', pa', pl2, env', d', pl2', A', e', q'⟩ := f
      refine ⟨hd', pa', pl2, env', d', pl2', A', e', fun v H' pa2 s g r => ?_⟩
      obtain ⟨k, h1, h2⟩ := q' v H' pa2 s g r
      refine ⟨k, h1, ?_⟩
      cases k with
      | true => simpa using h2
      | false => simpa using h2
    · obtain ⟨hd', pa', pl2, env', d', k', pl2', A', e', t', q'⟩ := finT hq
      refine ⟨hd', pa', pl2, env', d', k', pl2', A', e', t', fun H' pa2 s g => ?_⟩
      have h2 := q' H' pa2 s g
      cases k' with
      | true => simpa using h2
      | false => simpa using h2

/-! ### what is walked -/
def Walks (K : PySem.W.Frag) (J : It) (F : Hp) (ds : List D) : Prop := ∀ (i : Nat) (H2 : Hp), Le F H2 →
  (∀ d, ds[i]? = some d → J.go i H2 ∧ ∀ x H3, J.yld i H2 x H3 → H3 = H2 ∧ Rp K F x d) ∧ (ds.length ≤ i → J.stop i H2)
def RW (K : PySem.W.Frag) (wk : Wk) : TI := fun σ H R => ∃ hd pa pl env ds pl', At K σ env (varsW wk) H hd pa pl ∧ evW wk env pl = some (ds, pl') ∧
  ∀ J H' pa' F, Sta H' pa' pl' → Grow pa H pa' H' → Le F (vw H' (un hd pa')) → ((match wk with | .rng _ => True | .ex _ => False) → ∀ b, F b = none) → Walks K J F ds → R J H'
theorem walks_list {K : PySem.W.Frag} {F : Hp} {a : Addr} {xs : List V} {ds : List D} (h : F a = some (.lst xs)) (r : Rps K F xs ds) : Walks K (Itl K a) F ds := by
  intro i H2 l
  have hs : SqL K H2 a xs := SqL.of (l _ _ h)
  refine ⟨fun d hd => ?_, fun hi => ⟨xs, hs, by rw [r.length]; exact hi⟩⟩
  obtain ⟨v, hv, rv⟩ := r.get hd
  refine ⟨⟨xs, v, hs, hv⟩, fun x H3 y => ⟨y.1, ?_⟩⟩
  have := y.2 xs hs
  rw [hv] at this
  cases this
  exact rv
theorem walks_tup {K : PySem.W.Frag} {F : Hp} {a : Addr} {xs : List V} {ds : List D} (h : SqT K F a xs) (r : Rps K F xs ds) : Walks K (Itt K a) F ds := by
  intro i H2 l
  have hs : SqT K H2 a xs := SqT.le l h
  refine ⟨fun d hd => ?_, fun hi => ⟨xs, hs, by rw [r.length]; exact hi⟩⟩
  obtain ⟨v, hv, rv⟩ := r.get hd
  refine ⟨⟨xs, v, hs, hv⟩, fun x H3 y => ⟨y.1, ?_⟩⟩
  have := y.2 xs hs
  rw [hv] at this
  cases this
  exact rv
theorem walks_str {K : PySem.W.Frag} {F : Hp} {z : List Nat} : Walks K (Its (mkS z)) F (z.map fun c => .str [c]) := by
  intro i H2 l
  refine ⟨fun d hd => ?_, fun hi => ?_⟩
  · rw [List.getElem?_map] at hd
    cases e : z[i]? with
    | none => rw [e] at hd; cases hd
    | some c =>
      rw [e] at hd
      cases hd
      have hi := (List.getElem?_eq_some_iff.mp e).1
      refine ⟨by show i < (mkS z).cps.size; simpa using hi, fun x H3 y => ⟨y.1, ?_⟩⟩
      obtain ⟨_, c', e', rfl⟩ := y
      have : z[i]? = some c' := by simpa using e'
      rw [e] at this
      cases this
      exact .mstr [c]
  · show (mkS z).cps.size ≤ i
    simpa using hi
theorem walks_rng {K : PySem.W.Frag} {F : Hp} {lo : Int} {n : Nat} : Walks K (Itr lo n) F ((List.range n).map fun (j : Nat) => .int (lo + j)) := by
  intro i H2 l
  refine ⟨fun d hd => ?_, fun hi => (show n ≤ i by simpa using hi)⟩
  rw [List.getElem?_map] at hd
  have hi : i < n := by
    cases e : (List.range n)[i]? with
    | none => rw [e] at hd; cases hd
    | some c => simpa using (List.getElem?_eq_some_iff.mp e).1
  rw [List.getElem?_range hi] at hd
  cases hd
  refine ⟨hi, fun x H3 y => ⟨y.1, ?_⟩⟩
  rw [y.2]
  exact .mint _
theorem walks_rngC {K : PySem.W.Frag} {F : Hp} {lo : Int} {n : Nat} : Walks K (Itc lo (-1) n) F ((List.range n).map fun (j : Nat) => .int (lo - j)) := by
  intro i H2 l
  refine ⟨fun d hd => ?_, fun hi => (show n ≤ i by simpa using hi)⟩
  rw [List.getElem?_map] at hd
  have hi : i < n := by
    cases e : (List.range n)[i]? with
    | none => rw [e] at hd; cases hd
    | some c => simpa using (List.getElem?_eq_some_iff.mp e).1
  rw [List.getElem?_range hi] at hd
  cases hd
  refine ⟨hi, fun x H3 y => ⟨y.1, ?_⟩⟩
  rw [y.2]
  have e : lo + (i : Int) * -1 = lo - i := by omega
  rw [e]
  exact .mint _
theorem walks_rngS {K : PySem.W.Frag} {F : Hp} {lo c : Int} {n : Nat} : Walks K (Itc lo c n) F ((List.range n).map fun (j : Nat) => .int (lo + j * c)) := by
  intro i H2 l
  refine ⟨fun d hd => ?_, fun hi => (show n ≤ i by simpa using hi)⟩
  rw [List.getElem?_map] at hd
  have hi : i < n := by
    cases e : (List.range n)[i]? with
    | none => rw [e] at hd; cases hd
    | some c => simpa using (List.getElem?_eq_some_iff.mp e).1
  rw [List.getElem?_range hi] at hd
  cases hd
  refine ⟨hi, fun x H3 y => ⟨y.1, ?_⟩⟩
  rw [y.2]
  exact .mint _
theorem rgC_pos {i j c : Int} (hc : 0 < c) (hc2 : c < 1000000) (h1 : -1000000 < i) (h2 : i < 1000000) (h3 : -1000000 < j) (h4 : j < 1000000) : RgC i j c (Builtin.Range.rangeSize i j c).toNat := by
  have hs : 0 ≤ Builtin.Range.rangeSize i j c ∧ Builtin.Range.rangeSize i j c ≤ 2000000 := by
    unfold Builtin.Range.rangeSize
    rw [if_pos (show c > 0 from hc)]
    split
    · have a := Int.ediv_nonneg (a := j - i - 1) (b := c) (by omega) (by omega)
      have b := Int.ediv_le_self (a := j - i - 1) c (by omega)
      omega
    · omega
  refine ⟨by omega, by omega, ?_, by omega⟩
  unfold Builtin.Range.small
  simp only [Builtin.Range.rangeFitsLong, Bool.and_eq_true, Bool.or_eq_true, decide_eq_true_eq, beq_iff_eq, if_pos (show c > 0 from hc)]
  omega
theorem w_ex {tg : Expr} {a : Ex} (ha : PE X e (RD X.K a)) : PI X tg e (RW X.K (.ex a)) := by
  refine ⟨fun pins s σ H R I hq => ?_⟩
  obtain ⟨hd, pa, pl, env, ds, pl', A, e1, q⟩ := hq
  rw [evW] at e1
  obtain ⟨⟨da, pl1⟩, ea, e1⟩ := Option.bind_eq_some_iff.mp e1
  obtain ⟨ds', ew, e1⟩ := map1 e1
  cases e1
  cases da <;> first | (cases ew; done) | skip
  · cases Option.some.inj ew
    refine (pi_str ha).run pins s σ H R I ?_
    refine RD.mk A (fun i h => by simp [varsW, h]) ea fun x H1 pa1 A1 g1 r1 => ?_
    cases r1.str
    exact ⟨_, rfl, q _ H1 pa1 _ A1.sta g1 (.refl _) (fun z => z.elim) walks_str⟩
  · cases Option.some.inj ew
    refine (pi_list ha).run pins s σ H R I ?_
    refine RD.mk A (fun i h => by simp [varsW, h]) ea fun x H1 pa1 A1 g1 r1 => ?_
    obtain ⟨p, vs, rfl, hp, rp⟩ := r1.lst
    exact ⟨p, rfl, ⟨vs, SqL.of (vw_le _ _ hp)⟩, q _ H1 pa1 _ A1.sta g1 (.refl _) (fun z => z.elim) (walks_list hp rp)⟩
  · cases Option.some.inj ew
    refine (pi_tup ha).run pins s σ H R I ?_
    refine RD.mk A (fun i h => by simp [varsW, h]) ea fun x H1 pa1 A1 g1 r1 => ?_
    obtain ⟨p, vs, rfl, hp, rp⟩ := r1.tup
    exact ⟨p, rfl, ⟨vs, SqT.le vw_le hp⟩, q _ H1 pa1 _ A1.sta g1 (.refl _) (fun z => z.elim) (walks_tup hp rp)⟩
theorem len_two {α : Type} {l : List α} (h : l.length = 2) : ∃ a b, l = [a, b] := by
  match l, h with
  | [a, b], _ => exact ⟨a, b, rfl⟩
theorem len_three {α : Type} {l : List α} (h : l.length = 3) : ∃ a b c, l = [a, b, c] := by
  match l, h with
  | [a, b, c], _ => exact ⟨a, b, c, rfl⟩
theorem w_rng (C : Cxt k X) {tg : Expr} {es : Exs} {p : Pos} (hg : glB X.env.scope "range" = true) (hl : okEs X.N X.env.scope es l = true) (h : PA X l (RA X.K es)) : PI X tg (.Call (.Name "range" p) l [] pos) (RW X.K (.rng es)) := by
  have hm : X.mg "range" = none := C.blt _ (by simp [bltNames])
  refine ⟨fun pins s σ H R I hq => ?_⟩
  obtain ⟨hd, pa, pl, env, ds, pl', A, e1, q⟩ := hq
  rw [evW] at e1
  obtain ⟨⟨da, pl1⟩, ea, e1⟩ := Option.bind_eq_some_iff.mp e1
  obtain ⟨ds', ew, e1⟩ := map1 e1
  cases e1
  have e3 := evEs_len ea
  have e4 := (ok_stars (pos := pos) (env := X.env) hl).2.2
  have e5 : l.length = da.length := by rw [e4, e3]
  have e6 : exLen es = da.length := e3.symm
  simp only at ew ea
  unfold rngL at ew
  split at ew
  · rename_i n _
    obtain ⟨⟨h1, h2⟩, rfl⟩ := gd_some ew
    obtain ⟨b, rfl⟩ := List.length_eq_one_iff.mp e5
    have hs : starEach [b] X.env = [(false, eval b X.env)] := by
      cases es with
      | nil => simp [okEs] at hl
      | cons a r =>
        rw [okEs, Bool.and_eq_true] at hl
        rw [ok_star hl.1]
        rfl
    refine (pi_range1 (ok_gl hg).1 hm h hs).run pins s σ H R I ?_
    refine RA.mk A (fun i h => by simp [varsW, h]) ea fun xs H1 pa1 A1 g1 r1 => ?_
    obtain ⟨x, rfl, rx⟩ := one_of r1
    cases rx.int
    refine ⟨n, rfl, h1, h2, q _ H1 pa1 (fun _ => none) A1.sta g1 (fun b o h => by cases h) (fun _ _ => rfl) ?_⟩
    have := walks_rng (K := X.K) (F := fun _ => none) (lo := 0) (n := n.toNat)
    simpa using this
  · rename_i n m _
    obtain ⟨⟨⟨h1, h2⟩, h3, h4⟩, rfl⟩ := gd_some ew
    obtain ⟨b, c, rfl⟩ := len_two e5
    obtain ⟨hb, hc⟩ : (∃ a, okE X.N X.env.scope a b = true) ∧ (∃ a, okE X.N X.env.scope a c = true) := by
      cases es with
      | nil => simp [okEs] at hl
      | cons a r =>
        cases r with
        | nil => simp [okEs] at hl
        | cons a2 r2 =>
          rw [okEs, Bool.and_eq_true, okEs, Bool.and_eq_true] at hl
          exact ⟨⟨_, hl.1⟩, ⟨_, hl.2.1⟩⟩
    have hs2 : starEach [c] X.env = [(false, eval c X.env)] := by
      rw [ok_star hc.choose_spec]
      rfl
    have hs : starEach [b, c] X.env = [(false, eval b X.env), (false, eval c X.env)] := by rw [ok_star hb.choose_spec, hs2]
    refine (pi_range2 (ok_gl hg).1 hm h hs hs2).run pins s σ H R I ?_
    refine RA.mk A (fun i h => by simp [varsW, h]) ea fun xs H1 pa1 A1 g1 r1 => ?_
    obtain ⟨x, y, rfl, rx, ry⟩ := two_of r1
    cases rx.int; cases ry.int
    exact ⟨n, m, rfl, ⟨h1, h2, h3, h4⟩, q _ H1 pa1 (fun _ => none) A1.sta g1 (fun b o h => by cases h) (fun _ _ => rfl) walks_rng⟩
  · rename_i n m _
    obtain ⟨⟨⟨h1, h2⟩, h3, h4⟩, rfl⟩ := gd_some ew
    obtain ⟨b, c, d, rfl⟩ := len_three e5
    obtain ⟨hb, hp⟩ : (∃ a, okE X.N X.env.scope a b = true) ∧ (backTo pos (starEach [c, d] X.env)).any (·.1) = false := by
      cases es with
      | nil => simp [okEs] at hl
      | cons a r =>
        rw [okEs, Bool.and_eq_true] at hl
        exact ⟨⟨_, hl.1⟩, (ok_stars (pos := pos) (env := X.env) hl.2).1⟩
    have hs : starEach [b, c, d] X.env = (false, eval b X.env) :: starEach [c, d] X.env := ok_star hb.choose_spec _ _
    refine (pi_range3 (ok_gl hg).1 hm h hs hp).run pins s σ H R I ?_
    refine RA.mk A (fun i h => by simp [varsW, h]) ea fun xs H1 pa1 A1 g1 r1 => ?_
    obtain ⟨x, ys, rfl, rx, rys⟩ := r1.inv_cons
    obtain ⟨y, z, rfl, ry, rz⟩ := two_of rys
    cases rx.int; cases ry.int; cases rz.int
    exact ⟨n, m, -1, _, rfl, RgC.neg h1 h2 h3 h4, q _ H1 pa1 (fun _ => none) A1.sta g1 (fun b o h => by cases h) (fun _ _ => rfl) walks_rngC⟩
  · rename_i n m c hx _
    obtain ⟨⟨h0, h00, h1, h2, h3, h4⟩, rfl⟩ := gd_some ew
    obtain ⟨b, c, d, rfl⟩ := len_three e5
    obtain ⟨hb, hp⟩ : (∃ a, okE X.N X.env.scope a b = true) ∧ (backTo pos (starEach [c, d] X.env)).any (·.1) = false := by
      cases es with
      | nil => simp [okEs] at hl
      | cons a r =>
        rw [okEs, Bool.and_eq_true] at hl
        exact ⟨⟨_, hl.1⟩, (ok_stars (pos := pos) (env := X.env) hl.2).1⟩
    have hs : starEach [b, c, d] X.env = (false, eval b X.env) :: starEach [c, d] X.env := ok_star hb.choose_spec _ _
    refine (pi_range3 (ok_gl hg).1 hm h hs hp).run pins s σ H R I ?_
    refine RA.mk A (fun i h => by simp [varsW, h]) ea fun xs H1 pa1 A1 g1 r1 => ?_
    obtain ⟨x, ys, rfl, rx, rys⟩ := r1.inv_cons
    obtain ⟨y, z, rfl, ry, rz⟩ := two_of rys
    cases rx.int; cases ry.int; cases rz.int
    exact ⟨_, _, _, _, rfl, rgC_pos h0 h00 h1 h2 h3 h4, q _ H1 pa1 (fun _ => none) A1.sta g1 (fun b o h => by cases h) (fun _ _ => rfl) walks_rngS⟩
  · cases ew
end
end Pu
set_option Elab.async false
set_option linter.all false
set_option maxRecDepth 100000
namespace Pu
open PySem PySem.Spec PyProof.Rows L2

/-! ### list comprehensions -/
section
variable {K : PySem.W.Frag} {σ σ2 : L2.St} {env : Env} {S : List Nat} {H H' : Hp} {hd hd' : Addr → Prop} {pa : List Addr} {pl : Pool} {v : V} {d : D}
theorem At.less (A : At K σ env S H hd pa pl) (h : ∀ b, hd' b → hd b) (hp : ∀ b ∈ pa, hd' b) : At K σ env S H hd' pa pl :=
  ⟨hp, fun b z => A.al b (h b z), A.sta, fun i hi d e => let ⟨v, e1, r⟩ := A.see i hi d e; ⟨v, e1, r.le (vw_anti h)⟩, A.pol⟩
theorem vw_upd {D : Addr} {o : HO} (h : hd D) : vw (upd H D o) hd = vw H hd := by
  funext b
  unfold vw
  by_cases hb : hd b
  · rw [if_pos hb, if_pos hb]
  · rw [if_neg hb, if_neg hb]
    exact upd_ne (fun z => hb (by rw [z]; exact h))
/-- an object out of sight is written -/
theorem At.wr {D : Addr} {o : HO} (A : At K σ env S H hd pa pl) (h : hd D) (hp : D ∉ pa) : At K σ env S (upd H D o) hd pa pl := by
  refine ⟨A.sub, fun b z => ?_, A.sta.upd hp, fun i hi d e => ?_, A.pol⟩
  · by_cases hb : b = D
    · subst hb; rw [upd_same]; simp
    · rw [upd_ne hb]; exact A.al b z
  · rw [vw_upd h]; exact A.see i hi d e
theorem look_set_ne {i j : Nat} {s : Slot} (h : i ≠ j) : look (env.set i s) j = look env j := by
  unfold look
  rw [List.getElem?_set_ne h]
theorem At.put {i : Nat} (A : At K σ env S H hd pa pl) (r : Rp K (vw H hd) v d) (hi : i < σ.length) : At K ((wipe σ [i]).set i (some v)) (env.set i (.val d)) S H hd pa pl := by
  have e0 : wipe σ [i] = σ.set i none := rfl
  rw [e0, List.set_set]
  refine ⟨A.sub, A.al, A.sta, fun j hj d' e => ?_, fun j hj e => ?_⟩
  · by_cases hij : i = j
    · subst hij
      rw [List.getElem?_set_self hi]
      refine ⟨v, rfl, ?_⟩
      unfold look at e
      by_cases hl : i < env.length
      · rw [List.getElem?_set_self hl] at e
        cases e
        exact r
      · rw [List.getElem?_eq_none (by simpa using hl)] at e
        cases e
    · rw [List.getElem?_set_ne hij]
      rw [look_set_ne hij] at e
      exact A.see j hj d' e
  · by_cases hij : i = j
    · subst hij
      by_cases hl : i < env.length
      · rw [List.getElem?_set_self hl] at e
        cases e
      · rw [List.getElem?_eq_none (by simpa using hl)] at e
        cases e
    · rw [List.getElem?_set_ne hij] at e ⊢
      exact A.pol j hj e
theorem At.putV {i : Nat} (A : At K σ env S H hd pa pl) (r : Rp K (vw H hd) v d) (hi : i < σ.length) : At K (σ.set i (some v)) (env.set i (.val d)) S H hd pa pl := by
  refine ⟨A.sub, A.al, A.sta, fun j hj d' e => ?_, fun j hj e => ?_⟩
  · by_cases hij : i = j
    · subst hij
      rw [List.getElem?_set_self hi]
      refine ⟨v, rfl, ?_⟩
      unfold look at e
      by_cases hl : i < env.length
      · rw [List.getElem?_set_self hl] at e
        cases e
        exact r
      · rw [List.getElem?_eq_none (by simpa using hl)] at e
        cases e
    · rw [List.getElem?_set_ne hij]
      rw [look_set_ne hij] at e
      exact A.see j hj d' e
  · by_cases hij : i = j
    · subst hij
      by_cases hl : i < env.length
      · rw [List.getElem?_set_self hl] at e
        cases e
      · rw [List.getElem?_eq_none (by simpa using hl)] at e
        cases e
    · rw [List.getElem?_set_ne hij] at e ⊢
      exact A.pol j hj e
theorem At.putN {i : Nat} (A : At K σ env S H hd pa pl) : At K (σ.set i none) (env.set i .none) S H hd pa pl := by
  refine ⟨A.sub, A.al, A.sta, fun j hj d' e => ?_, fun j hj e => ?_⟩
  · by_cases hij : i = j
    · subst hij
      unfold look at e
      by_cases hl : i < env.length
      · rw [List.getElem?_set_self hl] at e
        cases e
      · rw [List.getElem?_eq_none (by simpa using hl)] at e
        cases e
    · rw [List.getElem?_set_ne hij]
      rw [look_set_ne hij] at e
      exact A.see j hj d' e
  · by_cases hij : i = j
    · subst hij
      by_cases hl : i < env.length
      · rw [List.getElem?_set_self hl] at e
        cases e
      · rw [List.getElem?_eq_none (by simpa using hl)] at e
        cases e
    · rw [List.getElem?_set_ne hij] at e ⊢
      exact A.pol j hj e
theorem At.wiped (A : At K σ env S H hd pa pl) : ∀ vs : List Nat, At K (wipe σ vs) (wipeE vs env) S H hd pa pl
  | [] => A
  | _ :: vs => (A.wiped vs).putN
theorem wipe_get {vs : List Nat} : ∀ j : Nat, (wipe σ vs)[j]? = if j ∈ vs then (σ[j]?).map (fun _ => none) else σ[j]? := by
  induction vs with
  | nil => intro j; simp [L2.wipe]
  | cons i vs ih =>
    intro j
    show ((L2.wipe σ vs).set i none)[j]? = _
    by_cases hij : i = j
    · subst hij
      rw [if_pos List.mem_cons_self, List.getElem?_set]
      simp only [if_true, wipe_length]
      by_cases hl : i < σ.length
      · rw [if_pos hl, List.getElem?_eq_getElem hl]; rfl
      · rw [if_neg hl, List.getElem?_eq_none (by omega)]; rfl
    · rw [List.getElem?_set_ne hij, ih j]
      have : (j ∈ i :: vs) ↔ j ∈ vs := by simp [Ne.symm hij]
      simp only [this]
theorem wipeE_get {vs : List Nat} : ∀ j : Nat, (wipeE vs env)[j]? = if j ∈ vs then (env[j]?).map (fun _ => Slot.none) else env[j]? := by
  induction vs with
  | nil => intro j; simp [wipeE]
  | cons i vs ih =>
    intro j
    have hlen : ∀ ws : List Nat, (wipeE ws env).length = env.length := fun ws => by
      induction ws with
      | nil => rfl
      | cons a b ih => show ((wipeE b env).set a .none).length = _; rw [List.length_set, ih]
    show ((wipeE vs env).set i .none)[j]? = _
    by_cases hij : i = j
    · subst hij
      rw [if_pos List.mem_cons_self, List.getElem?_set]
      simp only [if_true, hlen]
      by_cases hl : i < env.length
      · rw [if_pos hl, List.getElem?_eq_getElem hl]; rfl
      · rw [if_neg hl, List.getElem?_eq_none (by omega)]; rfl
    · rw [List.getElem?_set_ne hij, ih j]
      have : (j ∈ i :: vs) ↔ j ∈ vs := by simp [Ne.symm hij]
      simp only [this]
theorem wipe_set {vs : List Nat} {i : Nat} {x : Option V} (h : i ∈ vs) : wipe (σ.set i x) vs = wipe σ vs := by
  refine List.ext_getElem? fun j => ?_
  rw [wipe_get, wipe_get]
  by_cases hj : j ∈ vs
  · rw [if_pos hj, if_pos hj]
    by_cases hij : i = j
    · subst hij
      rw [List.getElem?_set]
      simp only [if_true]
      by_cases hl : i < σ.length
      · rw [if_pos hl, List.getElem?_eq_getElem hl]; rfl
      · rw [if_neg hl, List.getElem?_eq_none (by omega)]
    · rw [List.getElem?_set_ne hij]
  · rw [if_neg hj, if_neg hj, List.getElem?_set_ne (fun z => hj (by rw [← z]; exact h))]
theorem wipe_wipe {vs : List Nat} : wipe (wipe σ vs) vs = wipe σ vs := by
  refine List.ext_getElem? fun j => ?_
  rw [wipe_get, wipe_get]
  by_cases hj : j ∈ vs
  · rw [if_pos hj, if_pos hj]
    cases σ[j]? <;> rfl
  · rw [if_neg hj, if_neg hj]
theorem setAll_len : ∀ (is : List Nat) (ds : List D) (env : Env), (setAll is ds env).length = env.length
  | [], ds, env => by unfold setAll; cases ds <;> rfl
  | i :: is, [], env => by unfold setAll; rfl
  | i :: is, d :: ds, env => by rw [setAll, setAll_len is ds, List.length_set]
/-- what is stored over goes by -/
theorem setAll_congr : ∀ {is : List Nat} {ds : List D} {e1 e2 : Env}, ds.length = is.length → (∀ j, j ∉ is → e1[j]? = e2[j]?) → e1.length = e2.length → setAll is ds e1 = setAll is ds e2
  | [], ds, e1, e2, hl, h, hn => by
    have : e1 = e2 := List.ext_getElem? fun j => h j (by simp)
    rw [this]
  | i :: is, [], e1, e2, hl, h, hn => by simp at hl
  | i :: is, d :: ds, e1, e2, hl, h, hn => by
    rw [setAll, setAll]
    refine setAll_congr (by simpa using hl) (fun j hj => ?_) (by simp [hn])
    by_cases hij : i = j
    · subst hij
      rw [List.getElem?_set, List.getElem?_set, hn, if_pos rfl, if_pos rfl]
    · rw [List.getElem?_set_ne hij, List.getElem?_set_ne hij]
      exact h j (by simp [Ne.symm hij, hj])
theorem wipeE_len : ∀ ws : List Nat, (wipeE ws env).length = env.length
  | [] => rfl
  | a :: b => by show ((wipeE b env).set a .none).length = _; rw [List.length_set, wipeE_len b]
theorem putT_wipe {t : Tgt} {d : D} : putT t d (wipeE t.ix env) = putT t d env := by
  cases t with
  | nm i => show some (((env.set i .none)).set i (.val d)) = some _; rw [List.set_set]
  | tp is =>
    cases d with
    | tup ds =>
      show (if ds.length = is.length then some (setAll is ds (wipeE is env)) else none) = if ds.length = is.length then some (setAll is ds env) else none
      by_cases hl : ds.length = is.length
      · rw [if_pos hl, if_pos hl, setAll_congr hl (fun j hj => by rw [wipeE_get, if_neg hj]) (wipeE_len is)]
      · rw [if_neg hl, if_neg hl]
    | _ => rfl
def gNames : List Nat → TGs
  | [] => gNil
  | i :: is => gCons (gName i) (gNames is)
def gT (K : PySem.W.Frag) : Tgt → TG
  | .nm i => gName i
  | .tp is => gTup K is.length (gNames is)
theorem At.names {P : L2.St → Hp → Prop} {vs : List Nat} {σ0 : L2.St} : ∀ {is : List Nat} {ds : List D} {xs : List V} {σ : L2.St} {env : Env}, At K σ env S H hd pa pl → Rps K (vw H hd) xs ds → ds.length = is.length → (∀ i ∈ is, i ∈ vs) → (∀ i ∈ is, i < σ.length) → wipe σ vs = wipe σ0 vs →
    (∀ σ2, At K σ2 (setAll is ds env) S H hd pa pl → wipe σ2 vs = wipe σ0 vs → P σ2 H) → gNames is xs σ H P
  | [], ds, xs, σ, env, A, r, hl, _, _, hw, h => by
    cases ds with
    | cons _ _ => simp at hl
    | nil => exact ⟨r.inv_nil, h σ A hw⟩
  | i :: is, ds, xs, σ, env, A, r, hl, hv, hi, hw, h => by
    cases ds with
    | nil => simp at hl
    | cons d ds =>
      obtain ⟨x, ys, rfl, r1, r2⟩ := r.inv_cons
      refine ⟨x, ys, rfl, At.names (A.putV r1 (hi i List.mem_cons_self)) r2 (by simpa using hl) (fun j hj => hv j (List.mem_cons_of_mem _ hj)) (fun j hj => by rw [List.length_set]; exact hi j (List.mem_cons_of_mem _ hj)) (by rw [wipe_set (hv i List.mem_cons_self)]; exact hw) h⟩
theorem At.putG {t : Tgt} {vs : List Nat} {env1 : Env} {P : L2.St → Hp → Prop} (A : At K σ env S H hd pa pl) (r : Rp K (vw H hd) v d) (hv : ∀ i ∈ t.ix, i ∈ vs) (hi : ∀ i ∈ t.ix, i < σ.length) (e : putT t d (wipeE vs env) = some env1)
    (h : ∀ σ2, At K σ2 env1 S H hd pa pl → wipe σ2 vs = wipe σ vs → P σ2 H) : gT K t v (wipe σ vs) H P := by
  have A0 := A.wiped vs
  cases t with
  | nm i =>
    cases e
    refine h _ (A0.putV r (by rw [wipe_length]; exact hi i (by simp [Tgt.ix]))) ?_
    rw [wipe_set (hv i (by simp [Tgt.ix])), wipe_wipe]
  | tp is =>
    cases d with
    | tup ds =>
      have e : (if ds.length = is.length then some (setAll is ds (wipeE vs env)) else none) = some env1 := e
      by_cases hl : ds.length = is.length
      · rw [if_pos hl] at e
        cases e
        obtain ⟨a, xs, rfl, hs, hr⟩ := r.tup
        exact ⟨a, xs, rfl, SqT.le vw_le hs, by rw [hr.length]; exact hl, A0.names hr hl hv (fun i hi' => by rw [wipe_length]; exact hi i hi') wipe_wipe h⟩
      · rw [if_neg hl] at e
        cases e
    | _ => cases e
end
/-- the heap without one object -/
def hole (H : Hp) (D : Addr) : Hp := fun b => if b = D then none else H b
theorem hole_ne {H : Hp} {D b : Addr} (h : b ≠ D) : hole H D b = H b := if_neg h
theorem hole_upd {H : Hp} {D : Addr} {o : HO} (h : H D = some o) : upd (hole H D) D o = H := by
  funext b
  unfold upd hole
  by_cases hb : b = D
  · subst hb; rw [if_pos rfl, h]
  · rw [if_neg hb, if_neg hb]
/-- the turn of a comprehension -/
def lcTurnP (t : Tgt) (cd : OEx) (el : Ex) (env : Env) : D → Pool → Option (Option D × Pool) := fun x pl => (putT t x env).bind fun env1 => match cd with
  | .no => (evE el env1 pl).map fun q => (some q.1, q.2)
  | .yes c => (evE c env1 pl).bind fun t => (truD t.1).bind fun k => if k then (evE el env1 t.2).map fun q => (some q.1, q.2) else some (none, t.2)
theorem evE_lcP {t : Tgt} {wk : Wk} {cd : OEx} {el : Ex} {env : Env} {pl : Pool} : evE (.lcP t wk cd el) env pl = (evW wk env pl).bind fun r => (lcGo (lcTurnP t cd el env) r.1 r.2).bind fun q => gd (q.1.length ≤ sizeLine) (.lst q.1, q.2) := by
  rw [evE]
  rfl
def lcTurn (i : Nat) (cd : OEx) (el : Ex) (env : Env) : D → Pool → Option (Option D × Pool) := fun x pl => match cd with
  | .no => (evE el (env.set i (.val x)) pl).map fun q => (some q.1, q.2)
  | .yes c => (evE c (env.set i (.val x)) pl).bind fun t => (truD t.1).bind fun k => if k then (evE el (env.set i (.val x)) t.2).map fun q => (some q.1, q.2) else some (none, t.2)
theorem lcTurn_P {i : Nat} {cd : OEx} {el : Ex} {env : Env} : lcTurnP (.nm i) cd el env = lcTurn i cd el env := rfl
theorem evE_lc {i : Nat} {wk : Wk} {cd : OEx} {el : Ex} {env : Env} {pl : Pool} : evE (.lc i wk cd el) env pl = (evW wk env pl).bind fun r => (lcGo (lcTurn i cd el env) r.1 r.2).bind fun q => gd (q.1.length ≤ sizeLine) (.lst q.1, q.2) := by
  rw [evE]
  rfl
theorem evE_lc_P {i : Nat} {wk : Wk} {cd : OEx} {el : Ex} {env : Env} {pl : Pool} : evE (.lc i wk cd el) env pl = evE (.lcP (.nm i) wk cd el) env pl := by
  rw [evE_lc, evE_lcP]
  rfl
def lc2Turn (t t2 : Tgt) (w2 : Wk) (cd : OEx) (el : Ex) (env : Env) : D → Pool → Option (List D × Pool) := fun x pl => (putT t x (wipeE (t.ix ++ t2.ix) env)).bind fun env1 => (evW w2 env1 pl).bind fun r => lcGo (lcTurnP t2 cd el env1) r.1 r.2
theorem evE_lc2 {t t2 : Tgt} {wk w2 : Wk} {cd : OEx} {el : Ex} {env : Env} {pl : Pool} : evE (.lc2 t wk t2 w2 cd el) env pl = (evW wk env pl).bind fun r => (lcAll (lc2Turn t t2 w2 cd el env) r.1 r.2).bind fun q => gd (q.1.length ≤ sizeLine) (.lst q.1, q.2) := by
  rw [evE]
  rfl
/-- the tests of a clause -/
def RC (K : PySem.W.Frag) : OEx → TT
  | .no => tYes
  | .yes c => RT K c
/-- within a comprehension: its list lies at D, out of sight. hd: what the block does not see, H1: the heap behind the first walk -/
structure LcS (K : PySem.W.Frag) (σ : L2.St) (env : Env) (S : List Nat) (hd : Addr → Prop) (pa1 : List Addr) (H1 : Hp) (D : Addr) (H : Hp) (pa : List Addr) (pl : Pool) (acc : List Pu.D) : Prop where
  at_ : At K σ env S H (un (fun b => un hd pa1 b ∨ b = D) pa) pa pl
  gr : Grow pa1 H1 pa (hole H D)
  nD : D ∉ pa
  ls : ∃ vs, H D = some (.lst vs) ∧ Rps K (vw H (un (fun b => un hd pa1 b ∨ b = D) pa)) vs acc
section
variable {K : PySem.W.Frag} {σ σ2 : L2.St} {env env2 : Env} {S S2 : List Nat} {hd : Addr → Prop} {pa1 pa pa' : List Addr} {H1 H H' : Hp} {D : Addr} {pl pl' : Pool} {acc : List Pu.D}
theorem hole_grow (g : Grow pa H pa' H') (h : ∀ o, H D = some o → H' D = some o) : Grow pa (hole H D) pa' (hole H' D) := by
  refine ⟨fun b o n e => ?_, g.same⟩
  by_cases hb : b = D
  · subst hb; unfold hole at e; rw [if_pos rfl] at e; cases e
  · rw [hole_ne hb] at e ⊢
    exact g.keep b o n e
/-- an expression was evaluated -/
theorem LcS.step (L : LcS K σ env S hd pa1 H1 D H pa pl acc) (s : Sta H' pa' pl') (g : Grow pa H pa' H') : LcS K σ env S hd pa1 H1 D H' pa' pl' acc := by
  obtain ⟨vs, e, r⟩ := L.ls
  obtain ⟨n, e'⟩ := g.keep D _ L.nD e
  refine ⟨(L.at_.next s g).less (fun b z => z.elim (fun z => .inl (.inl z)) .inr) (fun b z => .inr z), L.gr.trans (hole_grow g fun o z => by rw [e] at z; cases z; exact e'), n, vs, e', r.le fun b o h => ?_⟩
  obtain ⟨n1, h1⟩ := vw_some h
  obtain ⟨n2, h2⟩ := g.keep b o (fun z => n1 (.inr z)) h1
  exact vw_of (fun z => z.elim (fun z => n1 (.inl z)) n2) h2
theorem LcS.over (L : LcS K σ env S hd pa1 H1 D H pa pl acc) (A : At K σ2 env2 S2 H (un (fun b => un hd pa1 b ∨ b = D) pa) pa pl) : LcS K σ2 env2 S2 hd pa1 H1 D H pa pl acc := ⟨A, L.gr, L.nD, L.ls⟩
/-- an item is kept -/
theorem LcS.app {y : V} {d : Pu.D} {vs : List V} (L : LcS K σ env S hd pa1 H1 D H pa pl acc) (e : H D = some (.lst vs)) (r : Rp K (vw H (un (fun b => un hd pa1 b ∨ b = D) pa)) y d) : LcS K σ env S hd pa1 H1 D (upd H D (.lst (vs ++ [y]))) pa pl (acc ++ [d]) := by
  obtain ⟨vs', e', r'⟩ := L.ls
  rw [e] at e'
  cases e'
  have hh : hole (upd H D (.lst (vs ++ [y]))) D = hole H D := by
    funext b
    by_cases hb : b = D
    · subst hb; unfold hole; rw [if_pos rfl, if_pos rfl]
    · rw [hole_ne hb, hole_ne hb, upd_ne hb]
  refine ⟨L.at_.wr (.inl (.inr rfl)) L.nD, by rw [hh]; exact L.gr, L.nD, _, upd_same, ?_⟩
  rw [vw_upd (.inl (.inr rfl))]
  exact r'.append (.cons r .nil)
theorem LcS.leF {F : Hp} (L : LcS K σ env S hd pa1 H1 D H pa pl acc) {pa4 : List Addr} {H4 : Hp} (l : Le F (vw H4 (un (fun b => un hd pa1 b ∨ b = D) pa4))) (g : Grow pa4 (hole H4 D) pa (hole H D)) : Le F (vw H (un (fun b => un hd pa1 b ∨ b = D) pa)) := fun b o h => by
  obtain ⟨n, q⟩ := vw_some (l _ _ h)
  have hb : b ≠ D := fun z => n (.inl (.inr z))
  obtain ⟨n2, q2⟩ := g.keep b o (fun z => n (.inr z)) (by rw [hole_ne hb]; exact q)
  rw [hole_ne hb] at q2
  exact vw_of (fun z => z.elim (fun z => n (.inl z)) n2) q2
/-- the turns of a comprehension's last clause -/
theorem lc_turns {t : Tgt} {cd : OEx} {el : Ex} {J : It} {F : Hp} {ds rest : List Pu.D} {plE : Pool} {Fin : Hp → Prop} (hc : ∀ i ∈ varsO cd, i ∈ S) (he : ∀ i ∈ varsE el, i ∈ S) (hi : ∀ i ∈ t.ix, i < σ.length)
    (L : LcS K σ env S hd pa1 H1 D H pa pl acc) (lF : Le F (vw H (un (fun b => un hd pa1 b ∨ b = D) pa))) (wlk : Walks K J F ds) (eg : lcGo (lcTurnP t cd el env) ds pl = some (rest, plE)) (hz : acc.length + rest.length ≤ sizeLine)
    (fin : ∀ H2 pa2, LcS K σ env S hd pa1 H1 D H2 pa2 plE (acc ++ rest) → Grow pa (hole H D) pa2 (hole H2 D) → Fin H2) :
    ∃ W : Nat → Nat → Hp → Prop, (∃ m, W 0 m H) ∧ ∀ j m H, W j m H → (J.stop j H ∧ Fin H) ∨ (J.go j H ∧ ∃ Nx : Hp → Prop, (∀ H', Nx H' → ∃ m', m' < m ∧ W (j + 1) m' H') ∧
      ∀ x H', J.yld j H x H' → gT K t x (wipe σ t.ix) H' fun σ2 H2 => wipe σ2 t.ix = wipe σ t.ix ∧ RC K cd σ2 H2 fun b H3 => if b = true then RD K el σ2 H3 fun y H4 => ∃ acc, H4 D = some (.lst acc) ∧ acc.length < sizeLine ∧ Nx (upd H4 D (.lst (acc ++ [y]))) else Nx H3) := by
  let P : Nat → Hp → Prop := fun j H2 => j ≤ ds.length ∧ ∃ pa2 pl2 acc2 rest2, LcS K σ env S hd pa1 H1 D H2 pa2 pl2 acc2 ∧ Grow pa (hole H D) pa2 (hole H2 D) ∧ lcGo (lcTurnP t cd el env) (ds.drop j) pl2 = some (rest2, plE) ∧ acc2 ++ rest2 = acc ++ rest
  refine ⟨fun j m H2 => m = ds.length - j ∧ P j H2, ⟨_, rfl, Nat.zero_le _, pa, pl, acc, rest, L, .refl, eg, rfl⟩, ?_⟩
  rintro j m H2 ⟨rfl, hj, pa2, pl2, acc2, rest2, L2', g2, eg2, ef⟩
  have lF2 := L2'.leF lF g2
  by_cases hlt : j < ds.length
  · have hd1 : ds[j]? = some ds[j] := List.getElem?_eq_getElem hlt
    obtain ⟨go, yl⟩ := (wlk j H2 (lF2.trans vw_le)).1 _ hd1
    refine .inr ⟨go, P (j + 1), fun H' z => ⟨ds.length - (j + 1), by omega, rfl, z⟩, fun xv H' yy => ?_⟩
    obtain ⟨rfl, rx⟩ := yl xv H' yy
    rw [List.drop_eq_getElem_cons hlt, lcGo] at eg2
    obtain ⟨⟨o1, pl3⟩, et, eg2⟩ := Option.bind_eq_some_iff.mp eg2
    obtain ⟨⟨rest3, pl4⟩, er, eg2⟩ := Option.map_eq_some_iff.mp eg2
    cases eg2
    obtain ⟨env1, ep, et⟩ := Option.bind_eq_some_iff.mp (show (putT t ds[j] env).bind _ = some (o1, pl3) from et)
    refine L2'.at_.putG (rx.le lF2) (fun _ h => h) hi (by rw [putT_wipe]; exact ep) fun σ2 A2 hw => ⟨hw, ?_⟩
    have L3 := L2'.over A2
    have back : ∀ {H3 : Hp} {pa3 : List Addr} {plx : Pool} {accx : List Pu.D}, LcS K σ2 env1 S hd pa1 H1 D H3 pa3 plx accx → Sta H3 pa3 plx → (∀ b o, b ∉ pa2 → b ≠ D → H' b = some o → b ∉ pa3 ∧ H3 b = some o) → (pa2 ≠ [] → pa3 = pa2) → LcS K σ env S hd pa1 H1 D H3 pa3 plx accx := by
      intro H3 pa3 plx accx L4 s3 k3 m3
      refine L4.over ⟨L4.at_.sub, L4.at_.al, L4.at_.sta, fun i hi' d e => ?_, fun i hi' e => ?_⟩
      · obtain ⟨v, e1, r⟩ := L2'.at_.see i hi' d e
        refine ⟨v, e1, r.le fun b o h => ?_⟩
        obtain ⟨n, q⟩ := vw_some h
        obtain ⟨n2, q2⟩ := k3 b o (fun z => n (.inr z)) (fun z => n (.inl (.inr z))) q
        exact vw_of (fun z => z.elim (fun z => n (.inl z)) n2) q2
      · obtain ⟨p, r, e1, e2⟩ := L2'.at_.pol i hi' e
        exact ⟨p, r, by rw [m3 (by rw [e1]; simp)]; exact e1, e2⟩
    have kk : ∀ {H3 : Hp} {pa3 : List Addr}, Grow pa2 H' pa3 H3 → (∀ b o, b ∉ pa2 → b ≠ D → H' b = some o → b ∉ pa3 ∧ H3 b = some o) := fun g b o n _ h => g.keep b o n h
    -- an item that is kept
    have keep : ∀ (H3 : Hp) (pa3 : List Addr) (plx : Pool) (d4 : Pu.D), LcS K σ2 env1 S hd pa1 H1 D H3 pa3 plx acc2 → Grow pa2 H' pa3 H3 → evE el env1 plx = some (d4, pl3) → o1 = some d4 →
        RD K el σ2 H3 fun y H4 => ∃ acc, H4 D = some (.lst acc) ∧ acc.length < sizeLine ∧ P (j + 1) (upd H4 D (.lst (acc ++ [y]))) := by
      intro H3 pa3 plx d4 L4 g3 e4 eo1
      subst eo1
      refine RD.mk L4.at_ (fun i h => he i h) e4 fun y H4 pa4 A4 g4 r4 => ?_
      have L5 := L4.step A4.sta g4
      obtain ⟨vs, e5, r5⟩ := L5.ls
      have ry : Rp K (vw H4 (un (fun b => un hd pa1 b ∨ b = D) pa4)) y d4 := r4.le (vw_anti fun b z => z.elim (fun z => .inl (.inl z)) .inr)
      have L6 := L5.app e5 ry
      have hlen : acc2.length < sizeLine := by
        have := congrArg List.length ef
        simp only [List.length_append, Option.toList_some, List.length_cons] at this
        omega
      have g34 := g3.trans g4
      refine ⟨vs, e5, by rw [r5.length]; exact hlen, hlt, pa4, pl3, acc2 ++ [d4], rest3, ?_, ?_, er, by rw [← ef]; simp⟩
      · refine back L6 (A4.sta.upd L5.nD) (fun b o n nb h => ?_) g34.same
        obtain ⟨n1, h1⟩ := g34.keep b o n h
        exact ⟨n1, by rw [upd_ne nb]; exact h1⟩
      · refine g2.trans ⟨fun b o n h => ?_, g34.same⟩
        by_cases hb : b = D
        · subst hb; unfold hole at h; rw [if_pos rfl] at h; cases h
        · rw [hole_ne hb] at h ⊢
          rw [upd_ne hb]
          exact g34.keep b o n h
    cases cd with
    | no =>
      obtain ⟨⟨d4, pl5⟩, e4, e5⟩ := Option.map_eq_some_iff.mp et
      cases e5
      unfold RC tYes
      exact L2.iteT (keep H' pa2 pl2 _ L3 .refl e4 rfl)
    | yes c =>
      obtain ⟨⟨dc, plc⟩, ec, et⟩ := Option.bind_eq_some_iff.mp et
      obtain ⟨kk', ek, et⟩ := Option.bind_eq_some_iff.mp et
      refine RT.mk L3.at_ (fun i h => hc i (by simpa [varsO] using h)) ec ek fun H3 pa3 A3 g3 => ?_
      have L4 := L3.step A3.sta g3
      cases kk' with
      | true =>
        rw [if_pos rfl] at et ⊢
        obtain ⟨⟨d4, pl5⟩, e4, e5⟩ := Option.map_eq_some_iff.mp et
        cases e5
        exact keep H3 pa3 plc _ L4 g3 e4 rfl
      | false =>
        rw [if_neg Bool.false_ne_true] at et ⊢
        cases et
        obtain ⟨vs, e5, _⟩ := L2'.ls
        obtain ⟨n3, h3⟩ := g3.keep D _ L2'.nD e5
        exact ⟨hlt, pa3, plc, acc2, rest3, back L4 A3.sta (kk g3) g3.same, g2.trans (hole_grow g3 fun o z => by rw [e5] at z; cases z; exact h3), er, by rw [← ef]; simp⟩
  · have ej : j = ds.length := by omega
    subst ej
    refine .inl ⟨(wlk ds.length H2 (lF2.trans vw_le)).2 (Nat.le_refl _), ?_⟩
    rw [List.drop_length, lcGo] at eg2
    cases eg2
    rw [List.append_nil] at ef
    rw [ef] at L2'
    exact fin H2 pa2 L2' g2
end
section
variable {X : Cx} {k : Nat}
/-- the start: the new list is laid -/
theorem lc_start {K : PySem.W.Frag} {σ : L2.St} {env : Env} {S : List Nat} {hd : Addr → Prop} {pa0 pa1 : List Addr} {H0 H1 : Hp} {D : Addr} {pl1 : Pool} (A1 : At K σ env S H1 (un hd pa1) pa1 pl1) (hD : H1 D = none) : LcS K σ env S hd pa1 H1 D (upd H1 D (.lst [])) pa1 pl1 [] := by
  have hDp : D ∉ pa1 := fun z => A1.al D (A1.sub D z) hD
  refine ⟨⟨fun b z => .inr z, fun b z => ?_, A1.sta.upd hDp, fun j hj d e => ?_, A1.pol⟩, ⟨fun b o n h => ⟨n, ?_⟩, fun _ => rfl⟩, hDp, [], upd_same, .nil⟩
  · rcases z with (z | z) | z
    · by_cases hb : b = D
      · subst hb; rw [upd_same]; simp
      · rw [upd_ne hb]; exact A1.al b z
    · subst z; rw [upd_same]; simp
    · rw [upd_ne (fun y => hDp (by rw [← y]; exact z))]; exact A1.al b (.inr z)
  · obtain ⟨v, e2, r⟩ := A1.see j hj d e
    refine ⟨v, e2, r.le fun b o h => ?_⟩
    obtain ⟨n, h2⟩ := vw_some h
    exact vw_of (fun z => z.elim (fun z => z.elim n (fun y => by rw [y, hD] at h2; cases h2)) (fun y => n (.inr y))) (by rw [upd_ne (ne_of_none h2 hD)]; exact h2)
  · have hb : b ≠ D := ne_of_none h hD
    rw [hole_ne hb, upd_ne hb]
    exact h
/-- the end: the list is a new one -/
theorem lc_end {K : PySem.W.Frag} {σ : L2.St} {env : Env} {S : List Nat} {hd : Addr → Prop} {pa0 pa1 pa : List Addr} {H0 H1 H : Hp} {D : Addr} {pl0 pl : Pool} {acc : List Pu.D} (A0 : At K σ env S H0 hd pa0 pl0) (g1 : Grow pa0 H0 pa1 H1) (L : LcS K σ env S hd pa1 H1 D H pa pl acc) :
    Sta (hole H D) pa pl ∧ Grow pa0 H0 pa (hole H D) ∧ At K σ env S (hole H D) (un hd pa) pa pl ∧ Res K true (vw (hole H D) (un hd pa)) (hole H D) (.lst acc) (.ref D) H := by
  obtain ⟨vs, e, r⟩ := L.ls
  have hs : Sta (hole H D) pa pl := by
    have h := L.at_.sta
    have hp := L.nD
    cases pl with
    | none => exact h
    | some ps =>
      obtain ⟨p, r', a, rfl, h0, h1, h2, h3⟩ := h
      simp only [List.mem_cons, List.not_mem_nil, or_false, not_or] at hp
      exact ⟨p, r', a, rfl, h0, by rw [hole_ne (Ne.symm hp.1)]; exact h1, by rw [hole_ne (Ne.symm hp.2.1)]; exact h2, by rw [hole_ne (Ne.symm hp.2.2)]; exact h3⟩
  have g := g1.trans L.gr
  have hh : hole H D D = none := if_pos rfl
  refine ⟨hs, g, A0.next hs g, .inr (.inl ⟨D, vs, acc, rfl, rfl, hh, (hole_upd e).symm, r.le fun b o h => ?_⟩)⟩
  obtain ⟨n, q⟩ := vw_some h
  have nD : b ≠ D := fun z => n (.inl (.inr z))
  exact vw_of (fun z => n (z.elim (fun z => .inl (.inl (.inl z))) .inr)) (by rw [hole_ne nD]; exact q)
theorem lcP_read {t : Tgt} {wk : Wk} {cd : OEx} {el : Ex} {σ : L2.St} {H : Hp} {Q : VK} (hlen : ∀ i ∈ t.ix, i < σ.length) (hq : RDf X.K (.lcP t wk cd el) σ H Q) : tLc (RW X.K wk) (gT X.K t) (RC X.K cd) (RD X.K el) t.ix σ H Q := by
  obtain ⟨hd, pa0, pl0, env, d, pl', A0, e1, q⟩ := hq
  rw [evE_lcP] at e1
  obtain ⟨⟨ds, pl1⟩, ew, e1⟩ := Option.bind_eq_some_iff.mp e1
  obtain ⟨⟨final, plE⟩, el1, e1⟩ := Option.bind_eq_some_iff.mp e1
  obtain ⟨hz, e1⟩ := gd_some e1
  cases e1
  simp only at el1 hz
  refine ⟨hd, pa0, pl0, env, ds, pl1, A0.mono (fun j h => by simp [varsE, h]), ew, fun J H1 pa1 F s1 g1 lF _ wlk D hD => ?_⟩
  have A1 := A0.next s1 g1
  have L0 := lc_start (pa0 := pa0) (H0 := H) A1 hD
  have lF0 : Le F (vw (upd H1 D (.lst [])) (un (fun b => un hd pa1 b ∨ b = D) pa1)) := fun b o h => by
    obtain ⟨n, h2⟩ := vw_some (lF _ _ h)
    exact vw_of (fun z => z.elim (fun z => z.elim n (fun y => by rw [y, hD] at h2; cases h2)) (fun y => n (.inr y))) (by rw [upd_ne (ne_of_none h2 hD)]; exact h2)
  refine lc_turns (fun i h => by simp [varsE, h]) (fun i h => by simp [varsE, h]) hlen L0 lF0 wlk el1 (by simpa using hz) fun H2 pa2 L2' _ => ?_
  rw [List.nil_append] at L2'
  obtain ⟨f1, f2, f3, f4⟩ := lc_end A0 g1 L2'
  exact q _ (hole H2 D) H2 pa2 f1 f2 f3 f4
theorem LcS.back {K : PySem.W.Frag} {σ σ2 : L2.St} {env env2 : Env} {S S2 : List Nat} {hd : Addr → Prop} {pa1 pa pa3 : List Addr} {H1 H H3 : Hp} {D : Addr} {pl pl3 : Pool} {acc acc3 : List Pu.D} (L0 : LcS K σ env S hd pa1 H1 D H pa pl acc) (L : LcS K σ2 env2 S2 hd pa1 H1 D H3 pa3 pl3 acc3) (g : Grow pa (hole H D) pa3 (hole H3 D)) :
    LcS K σ env S hd pa1 H1 D H3 pa3 pl3 acc3 := by
  refine ⟨⟨L.at_.sub, L.at_.al, L.at_.sta, fun i hi' d e => ?_, fun i hi' e => ?_⟩, L.gr, L.nD, L.ls⟩
  · obtain ⟨v, e1, r⟩ := L0.at_.see i hi' d e
    refine ⟨v, e1, r.le fun b o h => ?_⟩
    obtain ⟨n, q⟩ := vw_some h
    have hb : b ≠ D := fun z => n (.inl (.inr z))
    obtain ⟨n2, q2⟩ := g.keep b o (fun z => n (.inr z)) (by rw [hole_ne hb]; exact q)
    rw [hole_ne hb] at q2
    exact vw_of (fun z => z.elim (fun z => n (.inl z)) n2) q2
  · obtain ⟨p, r, e1, e2⟩ := L0.at_.pol i hi' e
    exact ⟨p, r, by rw [g.same (by rw [e1]; simp)]; exact e1, e2⟩
theorem wipe_len_eq {σ σ2 : L2.St} {vs : List Nat} (h : wipe σ2 vs = wipe σ vs) : σ2.length = σ.length := by
  have := congrArg List.length h
  rwa [wipe_length, wipe_length] at this
theorem lc2_read {t t2 : Tgt} {wk w2 : Wk} {cd : OEx} {el : Ex} {σ : L2.St} {H : Hp} {Q : VK} (hlen : ∀ i ∈ t.ix, i < σ.length) (hlen2 : ∀ i ∈ t2.ix, i < σ.length) (hq : RDf X.K (.lc2 t wk t2 w2 cd el) σ H Q) :
    tLc2 (RW X.K wk) (gT X.K t) tYes (RW X.K w2) (gT X.K t2) (RC X.K cd) (RD X.K el) (t.ix ++ t2.ix) t2.ix σ H Q := by
  obtain ⟨hd, pa0, pl0, env, d, pl', A0, e1, q⟩ := hq
  rw [evE_lc2] at e1
  obtain ⟨⟨ds, pl1⟩, ew, e1⟩ := Option.bind_eq_some_iff.mp e1
  obtain ⟨⟨final, plE⟩, el1, e1⟩ := Option.bind_eq_some_iff.mp e1
  obtain ⟨hz, e1⟩ := gd_some e1
  cases e1
  simp only at el1 hz
  refine ⟨hd, pa0, pl0, env, ds, pl1, A0.mono (fun j h => by simp [varsE, h]), ew, fun J H1 pa1 F s1 g1 lF _ wlk D hD => ?_⟩
  have A1 := A0.next s1 g1
  have L0 := lc_start (pa0 := pa0) (H0 := H) A1 hD
  have lF0 : Le F (vw (upd H1 D (.lst [])) (un (fun b => un hd pa1 b ∨ b = D) pa1)) := fun b o h => by
    obtain ⟨n, h2⟩ := vw_some (lF _ _ h)
    exact vw_of (fun z => z.elim (fun z => z.elim n (fun y => by rw [y, hD] at h2; cases h2)) (fun y => n (.inr y))) (by rw [upd_ne (ne_of_none h2 hD)]; exact h2)
  let P : Nat → Hp → Prop := fun j H2 => j ≤ ds.length ∧ ∃ pa2 pl2 acc2 rest2, LcS X.K σ env (varsE (.lc2 t wk t2 w2 cd el)) hd pa1 H1 D H2 pa2 pl2 acc2 ∧ Grow pa1 (hole (upd H1 D (.lst [])) D) pa2 (hole H2 D) ∧ lcAll (lc2Turn t t2 w2 cd el env) (ds.drop j) pl2 = some (rest2, plE) ∧ acc2 ++ rest2 = final
  refine ⟨fun j m H2 => m = ds.length - j ∧ P j H2, ⟨_, rfl, Nat.zero_le _, pa1, pl1, [], final, L0, .refl, el1, rfl⟩, ?_⟩
  rintro j m H2 ⟨rfl, hj, pa2, pl2, acc2, rest2, L2', g2, eg2, ef⟩
  have lF2 := L2'.leF lF0 g2
  by_cases hlt : j < ds.length
  · have hd1 : ds[j]? = some ds[j] := List.getElem?_eq_getElem hlt
    obtain ⟨go, yl⟩ := (wlk j H2 (lF2.trans vw_le)).1 _ hd1
    refine .inr ⟨go, P (j + 1), fun H' z => ⟨ds.length - (j + 1), by omega, rfl, z⟩, fun xv H' yy => ?_⟩
    obtain ⟨rfl, rx⟩ := yl xv H' yy
    rw [List.drop_eq_getElem_cons hlt, lcAll] at eg2
    obtain ⟨⟨r1, pl3⟩, et, eg2⟩ := Option.bind_eq_some_iff.mp eg2
    obtain ⟨⟨rest3, pl4⟩, er, eg2⟩ := Option.map_eq_some_iff.mp eg2
    cases eg2
    obtain ⟨env1, ep, et⟩ := Option.bind_eq_some_iff.mp (show (putT t ds[j] (wipeE (t.ix ++ t2.ix) env)).bind _ = some (r1, pl3) from et)
    obtain ⟨⟨ds2, pl5⟩, ew2, et⟩ := Option.bind_eq_some_iff.mp et
    simp only at et
    refine L2'.at_.putG (rx.le lF2) (fun i h => List.mem_append_left _ h) hlen ep fun σ2 A2 hw => ⟨hw, ?_⟩
    unfold tYes
    refine L2.iteT ?_
    refine ⟨_, pa2, pl2, env1, ds2, pl5, A2.mono (fun j h => by simp [varsE, h]), ew2, fun J1 H4 pa4 F1 s4 g4 lF4 _ wlk1 => ?_⟩
    have L4 := (L2'.over A2).step s4 g4
    have lF5 : Le F1 (vw H4 (un (fun b => un hd pa1 b ∨ b = D) pa4)) := lF4.trans (vw_anti fun b z => z.elim (fun z => .inl (.inl z)) .inr)
    have hl2 := wipe_len_eq hw
    have hfl : acc2.length + r1.length ≤ sizeLine := by
      have := congrArg List.length ef
      simp only [List.length_append] at this
      omega
    obtain ⟨vs, e5, _⟩ := L2'.ls
    obtain ⟨n3, h3⟩ := g4.keep D _ L2'.nD e5
    have gh := hole_grow g4 (D := D) fun o z => by rw [e5] at z; cases z; exact h3
    refine lc_turns (fun i h => by simp [varsE, h]) (fun i h => by simp [varsE, h]) (fun i h => by rw [hl2]; exact hlen2 i h) L4 lF5 wlk1 et hfl fun H5 pa5 L5 g5 => ?_
    exact ⟨hlt, pa5, pl3, acc2 ++ r1, rest3, L2'.back L5 (gh.trans g5), (g2.trans gh).trans g5, er, by rw [← ef]; simp⟩
  · have ej : j = ds.length := by omega
    subst ej
    refine .inl ⟨(wlk ds.length H2 (lF2.trans vw_le)).2 (Nat.le_refl _), ?_⟩
    rw [List.drop_length, lcAll] at eg2
    cases eg2
    rw [List.append_nil] at ef
    rw [ef] at L2'
    obtain ⟨f1, f2, f3, f4⟩ := lc_end A0 g1 L2'
    exact q _ (hole H2 D) H2 pa2 f1 f2 f3 f4
theorem RDf_lc {i : Nat} {wk : Wk} {cd : OEx} {el : Ex} {σ : L2.St} {H : Hp} {Q : VK} (hq : RDf X.K (.lc i wk cd el) σ H Q) : RDf X.K (.lcP (.nm i) wk cd el) σ H Q := by
  obtain ⟨hd, pa, pl, env, d, pl', A, e1, q⟩ := hq
  refine ⟨hd, pa, pl, env, d, pl', A.mono (fun j h => by simpa [varsE] using h), by rw [← evE_lc_P]; exact e1, fun v H1 H' pa' s g A' r => q v H1 H' pa' s g (A'.mono fun j h => by simpa [varsE] using h) r⟩
theorem lc_read {i : Nat} {wk : Wk} {cd : OEx} {el : Ex} {σ : L2.St} {H : Hp} {Q : VK} (hlen : i < σ.length) (hq : RDf X.K (.lc i wk cd el) σ H Q) : tLc (RW X.K wk) (gName i) (RC X.K cd) (RD X.K el) [i] σ H Q :=
  lcP_read (t := .nm i) (fun j hj => by simp only [Tgt.ix, List.mem_singleton] at hj; rw [hj]; exact hlen) (RDf_lc hq)
theorem f_lc (C : Cxt k X) {i : Nat} {wk : Wk} {cd : OEx} {el : Ex} {e w : Expr} {ifs : List Expr} {scope : Scope} {x : Str} {px pos : Pos} (hi : X.N[i]? = some x) (ok : BlkOk X.N X.env.scope scope [(x, i)]) (hw : PI X (.Name x px) w (RW X.K wk))
    (hg : ∀ (s : Shared) (H : Hp) (C : Addr) (cl : List (Str × Addr)) (fp : List Addr), PG (X.blk s H scope (compEnvC scope cl C X.env) fp) (.Name x px) (gName i))
    (ht : ∀ (s : Shared) (H : Hp) (C : Addr) (cl : List (Str × Addr)) (fp : List Addr), PTs (X.blk s H scope (compEnvC scope cl C X.env) fp) ifs (RC X.K cd))
    (he : ∀ (s : Shared) (H : Hp) (C : Addr) (cl : List (Str × Addr)) (fp : List Addr), PE (X.blk s H scope (compEnvC scope cl C X.env) fp) e (RD X.K el)) (hs : ∀ x, foldedSetIterable w X.env x = pure x) :
    PE X (.ListComp e [⟨.Name x px, w, ifs, 0⟩] scope pos) (RDf X.K (.lc i wk cd el)) := by
  refine ⟨fun pins s σ H Q I hq => (pe_lc C.calm C.nd hw ok hg ht he hs).run pins s σ H Q I ?_⟩
  exact lc_read (by rw [I.len]; exact (List.getElem?_eq_some_iff.mp hi).1) hq
theorem f_lcP (C : Cxt k X) {t : Tgt} {wk : Wk} {cd : OEx} {el : Ex} {e w tg : Expr} {ifs : List Expr} {scope : Scope} {own : List (Str × Nat)} {pos : Pos} (hi : ∀ i ∈ t.ix, i < X.N.length) (ok : BlkOk X.N X.env.scope scope own) (ho : own.map (·.2) = t.ix) (hw : PI X tg w (RW X.K wk))
    (hg : ∀ (s : Shared) (H : Hp) (C : Addr) (cl : List (Str × Addr)) (fp : List Addr), PG (X.blk s H scope (compEnvC scope cl C X.env) fp) tg (gT X.K t))
    (ht : ∀ (s : Shared) (H : Hp) (C : Addr) (cl : List (Str × Addr)) (fp : List Addr), PTs (X.blk s H scope (compEnvC scope cl C X.env) fp) ifs (RC X.K cd))
    (he : ∀ (s : Shared) (H : Hp) (C : Addr) (cl : List (Str × Addr)) (fp : List Addr), PE (X.blk s H scope (compEnvC scope cl C X.env) fp) e (RD X.K el)) (hs : ∀ x, foldedSetIterable w X.env x = pure x) :
    PE X (.ListComp e [⟨tg, w, ifs, 0⟩] scope pos) (RDf X.K (.lcP t wk cd el)) := by
  refine ⟨fun pins s σ H Q I hq => (pe_lc C.calm C.nd hw ok hg ht he hs).run pins s σ H Q I ?_⟩
  rw [ho]
  exact lcP_read (fun i h => by rw [I.len]; exact hi i h) hq
theorem f_lc2 (C : Cxt k X) {t t2 : Tgt} {wk w2' : Wk} {cd : OEx} {el : Ex} {e w tg tg2 w2 : Expr} {ifs : List Expr} {scope : Scope} {own : List (Str × Nat)} {pos : Pos} (hi : ∀ i ∈ t.ix, i < X.N.length) (hi2 : ∀ i ∈ t2.ix, i < X.N.length) (ok : BlkOk X.N X.env.scope scope own) (ho : own.map (·.2) = t.ix ++ t2.ix) (hw : PI X tg w (RW X.K wk))
    (hg : ∀ (s : Shared) (H : Hp) (C : Addr) (cl : List (Str × Addr)) (fp : List Addr), PG (X.blk s H scope (compEnvC scope cl C X.env) fp) tg (gT X.K t))
    (hw2 : ∀ (s : Shared) (H : Hp) (C : Addr) (cl : List (Str × Addr)) (fp : List Addr), PI (X.blk s H scope (compEnvC scope cl C X.env) fp) tg2 w2 (RW X.K w2'))
    (hg2 : ∀ (s : Shared) (H : Hp) (C : Addr) (cl : List (Str × Addr)) (fp : List Addr), PG (X.blk s H scope (compEnvC scope cl C X.env) fp) tg2 (gT X.K t2))
    (ht : ∀ (s : Shared) (H : Hp) (C : Addr) (cl : List (Str × Addr)) (fp : List Addr), PTs (X.blk s H scope (compEnvC scope cl C X.env) fp) ifs (RC X.K cd))
    (he : ∀ (s : Shared) (H : Hp) (C : Addr) (cl : List (Str × Addr)) (fp : List Addr), PE (X.blk s H scope (compEnvC scope cl C X.env) fp) e (RD X.K el)) (hs : ∀ x, foldedSetIterable w X.env x = pure x) (hs2 : ∀ env x, foldedSetIterable w2 env x = pure x) :
    PE X (.ListComp e [⟨tg, w, [], 0⟩, ⟨tg2, w2, ifs, 0⟩] scope pos) (RDf X.K (.lc2 t wk t2 w2' cd el)) := by
  refine ⟨fun pins s σ H Q I hq => (pe_lc2 C.calm C.nd hw ok (vs1 := t2.ix) (fun i h => by rw [ho]; exact List.mem_append_right _ h) hg (fun _ _ _ _ _ => pts_nil) hw2 hg2 ht he hs hs2).run pins s σ H Q I ?_⟩
  rw [ho]
  exact lc2_read (fun i h => by rw [I.len]; exact hi i h) (fun i h => by rw [I.len]; exact hi2 i h) hq
/-- sorted(set(..)) -/
theorem f_sset (C : Cxt k X) {a : Ex} {e : Expr} {p1 p2 q pos : Pos} (h1 : glB X.env.scope "sorted" = true) (h2 : glB X.env.scope "set" = true) (ha : PE X e (RD X.K a)) (na : starEach [e] X.env = (false, eval e X.env) :: starEach [] X.env) :
    PE X (.Call (.Name "sorted" p1) [.Call (.Name "set" p2) [e] [] q] [] pos) (RDf X.K (.sset a)) := by
  refine ⟨fun pins s σ H Q I hq => (pe_sset C.calm C.room.units (ok_gl h1).1 (C.blt _ (by simp [bltNames])) (ok_gl h2).1 (C.blt _ (by simp [bltNames])) ha na).run pins s σ H Q I ?_⟩
  obtain ⟨hd, pa, pl, env, d, pl', A, e1, qq⟩ := hq
  rw [evE] at e1
  obtain ⟨⟨da, pl1⟩, ea, e1⟩ := Option.bind_eq_some_iff.mp e1
  obtain ⟨l, eo, e1⟩ := map1 e1
  cases e1
  refine RD.mk A (fun i h => by simp [varsE, h]) ea fun x H1 pa1 A1 g1 r1 => ?_
  exact ⟨da, l, eo, _, vw_le, .cons r1 .nil, fun v H2 hr => qq v H1 H2 pa1 A1.sta g1 A1 hr⟩
/-- list(range(..)) -/
theorem f_lrng1 (C : Cxt k X) {a : Ex} {e : Expr} {p1 p2 q pos : Pos} (h1 : glB X.env.scope "list" = true) (h2 : glB X.env.scope "range" = true) (ha : PE X e (RD X.K a)) (na : starEach [e] X.env = (false, eval e X.env) :: starEach [] X.env) :
    PE X (.Call (.Name "list" p1) [.Call (.Name "range" p2) [e] [] q] [] pos) (RDf X.K (.lrng (.cons a .nil))) := by
  refine ⟨fun pins s σ H Q I hq => (pe_listRg C.calm (ok_gl h1).1 (C.blt _ (by simp [bltNames])) (prg_1 (ok_gl h2).1 (C.blt _ (by simp [bltNames])) ha na)).run pins s σ H Q I ?_⟩
  obtain ⟨hd, pa, pl, env, d, pl', A, e1, qq⟩ := hq
  simp only [evE, evEs] at e1
  obtain ⟨⟨ds, pl1⟩, e2, e1⟩ := Option.bind_eq_some_iff.mp e1
  obtain ⟨⟨da, pl2⟩, ea, e2⟩ := Option.bind_eq_some_iff.mp e2
  cases e2
  obtain ⟨l, er, e1⟩ := Option.bind_eq_some_iff.mp e1
  obtain ⟨hz, e1⟩ := gd_some e1
  cases e1
  cases da with
  | int n =>
    obtain ⟨⟨b1, b2⟩, rfl⟩ := gd_some (show gd _ _ = some l from er)
    refine RD.mk A (fun i h => by simp [varsE, varsEs, h]) ea fun x H1 pa1 A1 g1 r1 => ?_
    cases r1.int
    have hl : (n - 0).toNat = n.toNat := by rw [Int.sub_zero]
    have e3 : Rps X.K (vw H1 (un hd pa1)) (rgV 0 n) ((List.range n.toNat).map fun k => .int (k : Nat)) := by
      unfold rgV
      rw [hl]
      have key : ∀ l : List Nat, Rps X.K (vw H1 (un hd pa1)) (l.map fun i => V.int (0 + (i : Nat))) (l.map fun k => D.int (k : Nat)) := fun l => by
        induction l with
        | nil => exact .nil
        | cons a r ih => exact .cons (by show Rp _ _ (V.int (0 + (a : Int))) _; rw [Int.zero_add]; exact .mint _) ih
      exact key _
    refine ⟨n, rfl, ⟨by omega, by omega, b1, b2, by rw [hl]; rw [List.length_map, List.length_range] at hz; exact hz⟩, fun p hp => qq _ H1 _ pa1 A1.sta g1 A1 (.inr (.inl ⟨p, _, _, rfl, rfl, hp, rfl, e3⟩))⟩
  | _ => cases er
theorem f_lrng2 (C : Cxt k X) {a b : Ex} {e e2 : Expr} {p1 p2 q pos : Pos} (h1 : glB X.env.scope "list" = true) (h2 : glB X.env.scope "range" = true) (ha : PE X e (RD X.K a)) (hb : PE X e2 (RD X.K b)) (na : starEach [e, e2] X.env = (false, eval e X.env) :: starEach [e2] X.env) (nb : starEach [e2] X.env = (false, eval e2 X.env) :: starEach [] X.env)
    (hp' : (backTo q (starEach [e2] X.env)).any (·.1) = false) :
    PE X (.Call (.Name "list" p1) [.Call (.Name "range" p2) [e, e2] [] q] [] pos) (RDf X.K (.lrng (.cons a (.cons b .nil)))) := by
  refine ⟨fun pins s σ H Q I hq => (pe_listRg C.calm (ok_gl h1).1 (C.blt _ (by simp [bltNames])) (prg_2 (ok_gl h2).1 (C.blt _ (by simp [bltNames])) ha hb na nb hp')).run pins s σ H Q I ?_⟩
  obtain ⟨hd, pa, pl, env, d, pl', A, e1, qq⟩ := hq
  simp only [evE, evEs] at e1
  obtain ⟨⟨ds, pl1⟩, e2', e1⟩ := Option.bind_eq_some_iff.mp e1
  obtain ⟨⟨da, pl2⟩, ea, e2'⟩ := Option.bind_eq_some_iff.mp e2'
  obtain ⟨⟨dbs, pl3⟩, eb0, e2'⟩ := Option.map_eq_some_iff.mp e2'
  cases e2'
  obtain ⟨⟨db, pl4⟩, eb, e2'⟩ := Option.bind_eq_some_iff.mp eb0
  cases e2'
  obtain ⟨l, er, e1⟩ := Option.bind_eq_some_iff.mp e1
  obtain ⟨hz, e1⟩ := gd_some e1
  cases e1
  cases da with
  | int n =>
    cases db with
    | int m =>
      obtain ⟨⟨⟨b1, b2⟩, b3, b4⟩, rfl⟩ := gd_some (show gd _ _ = some l from er)
      refine RD.mk A (fun i h => by simp [varsE, varsEs, h]) ea fun x H1 pa1 A1 g1 r1 => ?_
      cases r1.int
      refine RD.mk A1 (fun i h => by simp [varsE, varsEs, h]) eb fun y H2 pa2 A2 g2 r2 => ?_
      cases r2.int
      have e3 : Rps X.K (vw H2 (un hd pa2)) (rgV n m) ((List.range (m - n).toNat).map fun k => .int (n + (k : Nat))) := by
        unfold rgV
        have key : ∀ l : List Nat, Rps X.K (vw H2 (un hd pa2)) (l.map fun i => V.int (n + (i : Nat))) (l.map fun k => D.int (n + (k : Nat))) := fun l => by
          induction l with
          | nil => exact .nil
          | cons a r ih => exact .cons (.mint _) ih
        exact key _
      have g := g1.trans g2
      refine ⟨n, m, rfl, rfl, ⟨b1, b2, b3, b4, by rw [List.length_map, List.length_range] at hz; exact hz⟩, fun p hp => qq _ H2 _ pa2 A2.sta g (A.next A2.sta g) (.inr (.inl ⟨p, _, _, rfl, rfl, hp, rfl, e3⟩))⟩
    | _ => cases er
  | _ => cases er
end
end Pu
set_option Elab.async false
set_option linter.all false
set_option maxRecDepth 100000
set_option maxHeartbeats 1000000
namespace Pu
open PySem PySem.Spec PyProof.Rows L2

theorem Cxt.blk {k : Nat} {X : Cx} (C : Cxt k X) (s : Shared) (H : Hp) (scope : Scope) (cenv : PySem.Env) (fp : List Addr) : Cxt k (X.blk s H scope cenv fp) := ⟨C.calm, C.nd, C.room, C.blt⟩
theorem blk_scope {X : Cx} {s : Shared} {H : Hp} {scope : Scope} {cl : List (Str × Addr)} {C : Addr} {fp : List Addr} : (X.blk s H scope (compEnvC scope cl C X.env) fp).env.scope = relS scope X.env.scope := rfl
def okIfs (N : List Str) (sc : Scope) : OEx → List Expr → Prop
  | .no, [] => True
  | .yes c, [f] => okE N sc c f = true
  | _, _ => False
def okTg : Option NameKind → Option NameKind → Prop
  | some .local, _ => True
  | some .cell, some .cell => True
  | _, _ => False
theorem blk_target {X : Cx} {k i : Nat} (C : Cxt k X) {x : Str} {px : Pos} {scope : Scope} (hi : X.N[i]? = some x) (h : okTg ((relS scope X.env.scope).names.lookup x) (scope.names.lookup x))
    (s : Shared) (H : Hp) (A : Addr) (cl : List (Str × Addr)) (fp : List Addr) : PG (X.blk s H scope (compEnvC scope cl A X.env) fp) (.Name x px) (gName i) := by
  unfold okTg at h
  split at h
  · exact pg_name C.nd hi (.inl (by assumption)) (.inr (by assumption))
  · rename_i h1 h2
    exact pg_name C.nd hi (.inr h1) (.inl (by show (scope.names.lookup x == some .cell) = true; rw [h2]; rfl))
  · cases h
theorem plainIx {e : Expr} (h : (match e with | .Slice _ _ _ _ => false | _ => true) = true) {N : List Str} {sc : Scope} {ex : Ex} (h2 : okE N sc ex e = true) : PlainIx e := by
  intro o i
  cases e <;> first | rfl | (cases h; done) | (cases ex <;> simp [okE] at h2)
theorem inv_rev {N : List Str} {sc : Scope} {a : Ex} {e : Expr} (h : okE N sc (.rev a) e = true) :
    ∃ x j p1 p2 p3 pos, e = .Subscript x (.Slice none none (some (.UnaryOp .USub (.Constant (.int 1) j p1) p2)) p3) pos ∧ okE N sc a x = true := by
  unfold okE at h
  split at h <;> first | (cases h; done) | (rename_i e1; cases e1; done) | skip
  rename_i e1
  cases e1
  exact ⟨_, _, _, _, _, _, rfl, h⟩
theorem inv_isK {N : List Str} {sc : Scope} {n : Bool} {a : Ex} {k : D} {e : Expr} (h : okE N sc (.isK n a k) e = true) :
    ∃ l c j p pos, e = .Compare l [if n = true then .IsNot else .Is] [.Constant c j p] pos ∧ okC k c = true ∧ okE N sc a l = true := by
  unfold okE at h
  split at h <;> first | (cases h; done) | (rename_i e1; cases e1; done) | skip
  rename_i e1
  cases e1
  simp only [Bool.and_eq_true, decide_eq_true_eq] at h
  obtain ⟨rfl, h1, h2⟩ := h
  exact ⟨_, _, _, _, _, rfl, h1, h2⟩
theorem inv_callP {N : List Str} {sc : Scope} {f : Str} {n i : Nat} {F : Fnc} {es : Exs} {e : Expr} (h : okE N sc (.callP f n F i es) e = true) :
    ∃ y p p2 l pos, e = .Call (.Name f p) (.Name y p2 :: l) [] pos ∧ glB sc f = true ∧ N[i]? = some y ∧ visB sc y = true ∧ exLen es = n ∧ okEs N sc es l = true := by
  unfold okE at h
  split at h <;> first | (cases h; done) | (rename_i e1; cases e1; done) | skip
  rename_i e1
  cases e1
  simp only [Bool.and_eq_true, decide_eq_true_eq] at h
  obtain ⟨⟨rfl, h1⟩, ⟨h2, h3⟩, h4, h5⟩ := h
  exact ⟨_, _, _, _, _, rfl, h1, h2, h3, h4, h5⟩
theorem inv_isi {N : List Str} {sc : Scope} {a : Ex} {t : Ty} {e : Expr} (h : okE N sc (.isi a t) e = true) :
    ∃ l p p2 pos, e = .Call (.Name "isinstance" p) [l, .Name (t.name : Str) p2] [] pos ∧ glB sc "isinstance" = true ∧ glB sc (t.name : Str) = true ∧ okE N sc a l = true := by
  unfold okE at h
  split at h <;> first | (cases h; done) | (rename_i e1; cases e1; done) | skip
  rename_i e1
  cases e1
  simp only [Bool.and_eq_true, decide_eq_true_eq] at h
  obtain ⟨⟨rfl, h1, rfl, h2⟩, h3⟩ := h
  exact ⟨_, _, _, _, rfl, h1, h2, h3⟩
theorem inv_lc {N : List Str} {sc : Scope} {i : Nat} {wk : Wk} {cd : OEx} {el : Ex} {e : Expr} (h : okE N sc (.lc i wk cd el) e = true) :
    ∃ e' x px w ifs scope pos, e = .ListComp e' [⟨.Name x px, w, ifs, 0⟩] scope pos ∧ N[i]? = some x ∧ blkC N sc scope [(x, i)] = true ∧ okW N sc wk w = true ∧ okIfs N (relS scope sc) cd ifs ∧
      okE N (relS scope sc) el e' = true ∧ okTg ((relS scope sc).names.lookup x) (scope.names.lookup x) := by
  unfold okE at h
  split at h <;> first | (cases h; done) | (rename_i e1; cases e1; done) | skip
  rename_i e1
  cases e1
  simp only [Bool.and_eq_true, decide_eq_true_eq] at h
  obtain ⟨⟨h1, h2⟩, ⟨h3, h4, h5⟩, h6⟩ := h
  refine ⟨_, _, _, _, _, _, _, rfl, h1, h2, h3, ?_, h5, ?_⟩
  · unfold okIfs
    split at h4 <;> first | (cases h4; done) | trivial | exact h4
  · unfold okTg
    split at h6
    · rename_i q1
      first | trivial | (rw [q1]; trivial)
    · rename_i q1 q2
      first | trivial | (rw [q1, q2]; trivial)
    · cases h6
theorem okX_ok {N : List Str} {rs scope : Scope} {i : Nat} {x : Str} (h : okX N rs scope i x = true) : N[i]? = some x ∧ okTg (rs.names.lookup x) (scope.names.lookup x) := by
  unfold okX at h
  rw [Bool.and_eq_true, decide_eq_true_eq] at h
  refine ⟨h.1, ?_⟩
  have h6 := h.2
  unfold okTg
  split at h6
  · rename_i q1
    first | trivial | (rw [q1]; trivial)
  · rename_i q1 q2
    first | trivial | (rw [q1, q2]; trivial)
  · cases h6
theorem okXs_cons {N : List Str} {rs scope : Scope} {i : Nat} {is : List Nat} {l : List Expr} (h : okXs N rs scope (i :: is) l = true) : ∃ x p r, l = .Name x p :: r ∧ okX N rs scope i x = true ∧ okXs N rs scope is r = true := by
  cases l with
  | nil => simp [okXs] at h
  | cons e l =>
    cases e with
    | Name x p =>
      rw [okXs, Bool.and_eq_true] at h
      exact ⟨_, _, _, rfl, h.1, h.2⟩
    | _ => simp [okXs] at h
theorem okXs_nil {N : List Str} {rs scope : Scope} {l : List Expr} (h : okXs N rs scope [] l = true) : l = [] := by
  cases l with
  | nil => rfl
  | cons a r => cases a <;> simp [okXs] at h
section
variable {X : Cx} {k : Nat}
theorem blk_names (C : Cxt k X) {scope : Scope} (s : Shared) (H : Hp) (A : Addr) (cl : List (Str × Addr)) (fp : List Addr) : ∀ {is : List Nat} {l : List Expr}, okXs X.N (relS scope X.env.scope) scope is l = true →
    PGs (X.blk s H scope (compEnvC scope cl A X.env) fp) l (gNames is) ∧ (assignEach l (X.blk s H scope (compEnvC scope cl A X.env) fp).env).length = is.length ∧ (assignEach l (X.blk s H scope (compEnvC scope cl A X.env) fp).env).findIdx? (·.1) = none
  | [], l, h => by rw [okXs_nil h]; exact ⟨pgs_nil, rfl, rfl⟩
  | i :: is, l, h => by
    obtain ⟨x, p, r, rfl, h1, h2⟩ := okXs_cons h
    obtain ⟨q1, q2, q3⟩ := blk_names C s H A cl fp h2
    obtain ⟨h3, h4⟩ := okX_ok h1
    refine ⟨pgs_cons (blk_target C h3 h4 s H A cl fp) q1, ?_, ?_⟩
    · show (_ :: assignEach r _).length = _
      rw [List.length_cons, q2, List.length_cons]
    · show ((false, assign (.Name x p) _) :: assignEach r _).findIdx? (·.1) = none
      rw [List.findIdx?_cons, q3]
      rfl
theorem blk_targetT (C : Cxt k X) {scope : Scope} {t : Tgt} {tg : Expr} (h : okT X.N (relS scope X.env.scope) scope t tg = true) (s : Shared) (H : Hp) (A : Addr) (cl : List (Str × Addr)) (fp : List Addr) :
    PG (X.blk s H scope (compEnvC scope cl A X.env) fp) tg (gT X.K t) := by
  cases t with
  | nm i =>
    cases tg with
    | Name x p =>
      obtain ⟨h1, h2⟩ := okX_ok (show okX X.N (relS scope X.env.scope) scope i x = true from h)
      exact blk_target C h1 h2 s H A cl fp
    | _ => simp [okT] at h
  | tp is =>
    cases tg with
    | Tuple l j p =>
      obtain ⟨q1, q2, q3⟩ := blk_names C s H A cl fp (show okXs X.N (relS scope X.env.scope) scope is l = true from h)
      exact pg_tup C.calm q1 q2 q3
    | _ => simp [okT] at h
end
theorem okXs_lt {N : List Str} {rs scope : Scope} : ∀ {is : List Nat} {l : List Expr}, okXs N rs scope is l = true → (∀ i ∈ is, i < N.length) ∧ (l.filterMap nameE).length = is.length
  | [], l, h => by rw [okXs_nil h]; exact ⟨(fun i h => by cases h), rfl⟩
  | i :: is, l, h => by
    obtain ⟨x, p, r, rfl, h1, h2⟩ := okXs_cons h
    obtain ⟨q1, q2⟩ := okXs_lt h2
    refine ⟨fun j hj => ?_, ?_⟩
    · rcases List.mem_cons.mp hj with rfl | hj
      · exact (List.getElem?_eq_some_iff.mp (okX_ok h1).1).1
      · exact q1 j hj
    · rw [List.filterMap_cons_some (f := nameE) (b := x) rfl, List.length_cons, q2, List.length_cons]
theorem okT_lt {N : List Str} {rs scope : Scope} {t : Tgt} {tg : Expr} (h : okT N rs scope t tg = true) : (∀ i ∈ t.ix, i < N.length) ∧ (ownT t tg).map (·.2) = t.ix := by
  cases t with
  | nm i =>
    cases tg with
    | Name x p =>
      obtain ⟨h1, h2⟩ := okX_ok (show okX N rs scope i x = true from h)
      refine ⟨fun j hj => ?_, rfl⟩
      simp only [Tgt.ix, List.mem_singleton] at hj
      rw [hj]
      exact (List.getElem?_eq_some_iff.mp h1).1
    | _ => simp [okT] at h
  | tp is =>
    cases tg with
    | Tuple l j p =>
      obtain ⟨q1, q2⟩ := okXs_lt (show okXs N rs scope is l = true from h)
      exact ⟨q1, List.map_snd_zip (by rw [q2]; exact Nat.le_refl _)⟩
    | _ => simp [okT] at h
theorem inv_lcP {N : List Str} {sc : Scope} {t : Tgt} {wk : Wk} {cd : OEx} {el : Ex} {e : Expr} (h : okE N sc (.lcP t wk cd el) e = true) :
    ∃ e' tg w ifs scope pos, e = .ListComp e' [⟨tg, w, ifs, 0⟩] scope pos ∧ okT N (relS scope sc) scope t tg = true ∧ blkC N sc scope (ownT t tg) = true ∧ okW N sc wk w = true ∧ okIfs N (relS scope sc) cd ifs ∧ okE N (relS scope sc) el e' = true := by
  unfold okE at h
  split at h <;> first | (cases h; done) | (rename_i e1; cases e1; done) | skip
  rename_i e1
  cases e1
  simp only [Bool.and_eq_true] at h
  obtain ⟨⟨h1, h2⟩, h3, h4, h5⟩ := h
  refine ⟨_, _, _, _, _, _, rfl, h1, h2, h3, ?_, h5⟩
  unfold okIfs
  split at h4 <;> first | (cases h4; done) | trivial | exact h4
theorem inv_lc2 {N : List Str} {sc : Scope} {t t2 : Tgt} {wk wk2 : Wk} {cd : OEx} {el : Ex} {e : Expr} (h : okE N sc (.lc2 t wk t2 wk2 cd el) e = true) :
    ∃ e' tg w tg2 w2 ifs scope pos, e = .ListComp e' [⟨tg, w, [], 0⟩, ⟨tg2, w2, ifs, 0⟩] scope pos ∧ okT N (relS scope sc) scope t tg = true ∧ okT N (relS scope sc) scope t2 tg2 = true ∧ blkC N sc scope (ownT t tg ++ ownT t2 tg2) = true ∧
      okW N sc wk w = true ∧ okW N (relS scope sc) wk2 w2 = true ∧ okIfs N (relS scope sc) cd ifs ∧ okE N (relS scope sc) el e' = true := by
  unfold okE at h
  split at h <;> first | (cases h; done) | (rename_i e1; cases e1; done) | skip
  rename_i e1
  cases e1
  simp only [Bool.and_eq_true] at h
  obtain ⟨⟨⟨h1, h2⟩, h3⟩, ⟨h4, h5⟩, h6, h7⟩ := h
  refine ⟨_, _, _, _, _, _, _, _, rfl, h1, h2, h3, h4, h5, ?_, h7⟩
  unfold okIfs
  split at h6 <;> first | (cases h6; done) | trivial | exact h6
theorem inv_lrng {N : List Str} {sc : Scope} {es : Exs} {e : Expr} (h : okE N sc (.lrng es) e = true) :
    ∃ l p1 p2 q pos, e = .Call (.Name "list" p1) [.Call (.Name "range" p2) l [] q] [] pos ∧ glB sc "list" = true ∧ glB sc "range" = true ∧ okEs N sc es l = true ∧ (exLen es = 1 ∨ exLen es = 2) := by
  unfold okE at h
  split at h <;> first | (cases h; done) | (rename_i e1; cases e1; done) | skip
  rename_i e1
  cases e1
  simp only [Bool.and_eq_true, decide_eq_true_eq] at h
  obtain ⟨⟨⟨rfl, h1⟩, rfl, h2⟩, h3, h4⟩ := h
  exact ⟨_, _, _, _, _, rfl, h1, h2, h3, h4⟩
theorem inv_sset {N : List Str} {sc : Scope} {a : Ex} {e : Expr} (h : okE N sc (.sset a) e = true) :
    ∃ l p1 p2 q pos, e = .Call (.Name "sorted" p1) [.Call (.Name "set" p2) [l] [] q] [] pos ∧ glB sc "sorted" = true ∧ glB sc "set" = true ∧ okE N sc a l = true := by
  unfold okE at h
  split at h <;> first | (cases h; done) | (rename_i e1; cases e1; done) | skip
  rename_i e1
  cases e1
  simp only [Bool.and_eq_true, decide_eq_true_eq] at h
  obtain ⟨⟨⟨rfl, h1⟩, rfl, h2⟩, h3⟩ := h
  exact ⟨_, _, _, _, _, rfl, h1, h2, h3⟩
mutual
theorem sE (k : Nat) : ∀ (ex : Ex) (X : Cx) (e : Expr), Cxt k X → (∀ n ∈ needE ex, NeedX k X n) → okE X.N X.env.scope ex e = true → PE X e (RD X.K ex) ∧ PT X e (RT X.K ex)
  | .var i, X, e, C, hn, h => by
    cases e with
    | Name x pos =>
      rw [okE, Bool.and_eq_true, decide_eq_true_eq] at h
      have p : PE X (.Name x pos) (RD X.K (.var i)) := s_var h.1 h.2
      exact ⟨p, plain_test p fun _ => rfl⟩
    | _ => simp [okE] at h
  | .con d, X, e, C, hn, h => by
    cases e with
    | Constant c j pos =>
      rw [okE] at h
      have p : PE X (.Constant c j pos) (RD X.K (.con d)) := s_con h
      exact ⟨p, plain_test p fun _ => rfl⟩
    | _ => simp [okE] at h
  | .glob x d, X, e, C, hn, h => by
    cases e with
    | Name y pos =>
      rw [okE, Bool.and_eq_true, decide_eq_true_eq] at h
      obtain ⟨rfl, h2⟩ := h
      have p : PE X (.Name x pos) (RD X.K (.glob x d)) := s_glob h2 (hn _ (by simp [needE]))
      exact ⟨p, plain_test p fun _ => rfl⟩
    | _ => simp [okE] at h
  | .bin op a b, X, e, C, hn, h => by
    cases e with
    | BinOp l o r pos =>
      simp only [okE, Bool.and_eq_true, decide_eq_true_eq] at h
      obtain ⟨rfl, h1, h2⟩ := h
      have pa := sE k a X l C (fun n z => hn n (by simp [needE, z])) h1
      have pb := sE k b X r C (fun n z => hn n (by simp [needE, z])) h2
      have p : PE X (.BinOp l o r pos) (RD X.K (.bin o a b)) := s_bin pa.1 pb.1
      exact ⟨p, plain_test p fun _ => rfl⟩
    | _ => simp [okE] at h
  | .neg a, X, e, C, hn, h => by
    cases e with
    | UnaryOp o x pos =>
      cases o with
      | USub =>
        rw [okE] at h
        have pa := sE k a X x C (fun n z => hn n (by simp [needE, z])) h
        have p : PE X (.UnaryOp .USub x pos) (RD X.K (.neg a)) := s_neg pa.1
        exact ⟨p, plain_test p fun _ => rfl⟩
      | _ => simp [okE] at h
    | _ => simp [okE] at h
  | .cmp op a b, X, e, C, hn, h => by
    cases e with
    | Compare l ops rs pos =>
      match ops, rs, h with
      | [o], [r], h =>
        simp only [okE, Bool.and_eq_true, decide_eq_true_eq] at h
        obtain ⟨rfl, h1, h2⟩ := h
        have pa := sE k a X l C (fun n z => hn n (by simp [needE, z])) h1
        have pb := sE k b X r C (fun n z => hn n (by simp [needE, z])) h2
        exact s_cmp C (ok_behind h2) pa.1 pb.1
      | [], _, h => simp [okE] at h
      | _ :: _ :: _, _, h => simp [okE] at h
      | [_], [], h => simp [okE] at h
      | [_], _ :: _ :: _, h => simp [okE] at h
    | _ => simp [okE] at h
  | .chn o1 o2 a b c, X, e, C, hn, h => by
    cases e with
    | Compare l ops rs pos =>
      match ops, rs, h with
      | [p1, p2], [r, t], h =>
        simp only [okE, Bool.and_eq_true, decide_eq_true_eq] at h
        obtain ⟨⟨rfl, rfl⟩, h1, h2, h3⟩ := h
        have pa := sE k a X l C (fun n z => hn n (by simp [needE, z])) h1
        have pb := sE k b X r C (fun n z => hn n (by simp [needE, z])) h2
        have pc := sE k c X t C (fun n z => hn n (by simp [needE, z])) h3
        exact s_chn C (by show behindInMarks p2 t = false; exact ok_behind h3) pa.1 pb.1 pc.1
      | [], _, h => simp [okE] at h
      | [_], _, h => simp [okE] at h
      | _ :: _ :: _ :: _, _, h => simp [okE] at h
      | [_, _], [], h => simp [okE] at h
      | [_, _], [_], h => simp [okE] at h
      | [_, _], _ :: _ :: _ :: _, h => simp [okE] at h
    | _ => simp [okE] at h
  | .isK n a kd, X, e, C, hn, h => by
    obtain ⟨l, c, j, p, pos, rfl, h1, h2⟩ := inv_isK h
    exact s_isK h1 (sE k a X l C (fun n z => hn n (by simp [needE, z])) h2).1
  | .bools isAnd es, X, e, C, hn, h => by
    cases e with
    | BoolOp o l pos =>
      simp only [okE, Bool.and_eq_true, decide_eq_true_eq] at h
      obtain ⟨rfl, h1⟩ := h
      have p := sB k isAnd es X l pos C (fun n z => hn n (by simpa [needE] using z)) h1
      cases es with
      | nil =>
        refine ⟨⟨fun pins s σ H Q I hq => ?_⟩, ⟨fun pins s σ H Q I hq => ?_⟩⟩
        · obtain ⟨hd, pa, pl, env, d, pl', A, e1, q⟩ := hq
          rw [evE, evB] at e1
          cases e1
        · obtain ⟨hd, pa, pl, env, d, k, pl', A, e1, q⟩ := hq
          rw [evE, evB] at e1
          cases e1
      | cons a es =>
        obtain ⟨p1, p2⟩ := p (by simp [exLen])
        refine ⟨⟨fun pins s σ H Q I hq => p1.run pins s σ H Q I ?_⟩, ⟨fun pins s σ H Q I hq => p2.pt.run pins s σ H Q I ?_⟩⟩
        · obtain ⟨hd, pa, pl, env, d, pl', A, e1, q⟩ := hq
          rw [evE] at e1
          exact ⟨hd, pa, pl, env, d, pl', A.mono (fun i z => by simpa [varsE] using z), e1, q⟩
        · obtain ⟨hd, pa, pl, env, d, k, pl', A, e1, t, q⟩ := hq
          rw [evE] at e1
          exact ⟨hd, pa, pl, env, d, k, pl', A.mono (fun i z => by simpa [varsE] using z), e1, t, q⟩
    | _ => simp [okE] at h
  | .notE a, X, e, C, hn, h => by
    cases e with
    | UnaryOp o x pos =>
      cases o with
      | Not =>
        rw [okE] at h
        have pa := sE k a X x C (fun n z => hn n (by simp [needE, z])) h
        exact s_not pa.1 pa.2
      | _ => simp [okE] at h
    | _ => simp [okE] at h
  | .ite c a b, X, e, C, hn, h => by
    cases e with
    | IfExp x y z pos =>
      simp only [okE, Bool.and_eq_true] at h
      obtain ⟨h1, h2, h3⟩ := h
      have pc := sE k c X x C (fun n z => hn n (by simp [needE, z])) h1
      have pa := sE k a X y C (fun n z => hn n (by simp [needE, z])) h2
      have pb := sE k b X z C (fun n z => hn n (by simp [needE, z])) h3
      exact s_ite pc.2 pa.1 pb.1 pa.2 pb.2
    | _ => simp [okE] at h
  | .tup es, X, e, C, hn, h => by
    cases e with
    | Tuple l j pos =>
      rw [okE] at h
      have p := RDf.rd (f_tup (pos := pos) (j := j) (sA k es X l C (fun n z => hn n (by simpa [needE] using z)) h))
      exact ⟨p, plain_test p fun _ => rfl⟩
    | _ => simp [okE] at h
  | .lst es, X, e, C, hn, h => by
    cases e with
    | List l pos =>
      rw [okE] at h
      have p := RDf.rd (f_lst (pos := pos) (sA k es X l C (fun n z => hn n (by simpa [needE] using z)) h))
      exact ⟨p, plain_test p fun _ => rfl⟩
    | _ => simp [okE] at h
  | .sub a i, X, e, C, hn, h => by
    cases e with
    | Subscript x y pos =>
      simp only [okE, Bool.and_eq_true] at h
      obtain ⟨h1, h2, h3⟩ := h
      have pa := sE k a X x C (fun n z => hn n (by simp [needE, z])) h1
      have pb := sE k i X y C (fun n z => hn n (by simp [needE, z])) h2
      have p : PE X (.Subscript x y pos) (RD X.K (.sub a i)) := s_sub (plainIx h3 h2) pa.1 pb.1
      exact ⟨p, plain_test p fun _ => rfl⟩
    | _ => simp [okE] at h
  | .sl a lo hi, X, e, C, hn, h => by
    cases e with
    | Subscript x y pos =>
      cases y with
      | Slice l u st p2 =>
        cases st with
        | none =>
          simp only [okE, Bool.and_eq_true] at h
          obtain ⟨h1, h2, h3⟩ := h
          have pa := sE k a X x C (fun n z => hn n (by simp [needE, z])) h1
          have pl := sO k lo X l C (fun n z => hn n (by simp [needE, z])) h2
          have pu := sO k hi X u C (fun n z => hn n (by simp [needE, z])) h3
          have p := RDf.rd (f_sl (pos := pos) (p2 := p2) pa.1 pl pu)
          exact ⟨p, plain_test p fun _ => rfl⟩
        | some _ => simp [okE] at h
      | _ => simp [okE] at h
    | _ => simp [okE] at h
  | .rev a, X, e, C, hn, h => by
    obtain ⟨x, j, p1, p2, p3, pos, rfl, h1⟩ := inv_rev h
    have p := RDf.rd (f_rev (pos := pos) (j := j) (p1 := p1) (p2 := p2) (p3 := p3) (sE k a X x C (fun n z => hn n (by simp [needE, z])) h1).1)
    exact ⟨p, plain_test p fun _ => rfl⟩
  | .call f n F es, X, e, C, hn, h => by
    cases e with
    | Call fn l kw pos =>
      cases fn with
      | Name x p =>
        cases kw with
        | nil =>
          simp only [okE, Bool.and_eq_true, decide_eq_true_eq] at h
          obtain ⟨⟨rfl, h1⟩, ⟨h2, h3⟩, h4⟩ := h
          have pa := sA k es X l C (fun n z => hn n (by simp [needE, z])) h4
          cases l with
          | nil => have := (ok_stars (pos := pos) (env := X.env) h4).2.2; simp at this; omega
          | cons a r =>
            have hst : starEach (a :: r) X.env = (false, eval a X.env) :: starEach r X.env := by
              cases es with
              | nil => simp [okEs] at h4
              | cons b es => rw [okEs, Bool.and_eq_true] at h4; exact ok_star h4.1 _ _
            have hpl : (backTo pos (starEach r X.env)).any (·.1) = false := by
              cases es with
              | nil => simp [okEs] at h4
              | cons b es => rw [okEs, Bool.and_eq_true] at h4; exact (ok_stars h4.2).1
            have p : PE X (.Call (.Name x p) (a :: r) [] pos) (RD X.K (.call x n F es)) := s_call C (hn _ (by simp [needE])) h1 h2 pa hst hpl
            exact ⟨p, plain_test p fun _ => rfl⟩
        | cons _ _ => simp [okE] at h
      | _ => simp [okE] at h
    | _ => simp [okE] at h
  | .callP f n F i es, X, e, C, hn, h => by
    obtain ⟨y, p, p2, l, pos, rfl, h1, h2, h3, h4, h5⟩ := inv_callP h
    have q : PE X (.Call (.Name f p) (.Name y p2 :: l) [] pos) (RD X.K (.callP f n F i es)) := s_callP C (hn _ (by simp [needE])) h1 h4 h2 h3 (sA k es X l C (fun n z => hn n (by simp [needE, z])) h5) (ok_stars h5).1
    exact ⟨q, plain_test q fun _ => rfl⟩
  | .bi f es, X, e, C, hn, h => by
    cases e with
    | Call fn l kw pos =>
      cases fn with
      | Name x p =>
        cases kw with
        | nil =>
          simp only [okE, Bool.and_eq_true, decide_eq_true_eq] at h
          obtain ⟨⟨rfl, h1⟩, h3, h4⟩ := h
          have pa := sA k es X l C (fun n z => hn n (by simpa [needE] using z)) h4
          cases l with
          | nil => have := (ok_stars (pos := pos) (env := X.env) h4).2.2; simp at this; omega
          | cons a r =>
            have hst : starEach (a :: r) X.env = (false, eval a X.env) :: starEach r X.env := by
              cases es with
              | nil => simp [okEs] at h4
              | cons b es => rw [okEs, Bool.and_eq_true] at h4; exact ok_star h4.1 _ _
            have hpl : (backTo pos (starEach r X.env)).any (·.1) = false := by
              cases es with
              | nil => simp [okEs] at h4
              | cons b es => rw [okEs, Bool.and_eq_true] at h4; exact (ok_stars h4.2).1
            have p := RDf.rd (f_bi (p := p) C h1 pa hst hpl)
            exact ⟨p, plain_test p fun _ => rfl⟩
        | cons _ _ => simp [okE] at h
      | _ => simp [okE] at h
    | _ => simp [okE] at h
  | .me m a es, X, e, C, hn, h => by
    cases e with
    | Call fn l kw pos =>
      cases fn with
      | Attribute o x p =>
        cases kw with
        | nil =>
          simp only [okE, Bool.and_eq_true, decide_eq_true_eq] at h
          obtain ⟨⟨rfl, h1⟩, h2, ⟨h3, h5⟩, h4⟩ := h
          have po := sE k a X o C (fun n z => hn n (by simp [needE, z])) h2
          have pa := sA k es X l C (fun n z => hn n (by simp [needE, z])) h4
          obtain ⟨b1, b2, b3⟩ := ok_stars (pos := pos) (env := X.env) h4
          cases l with
          | nil => simp at b3; omega
          | cons b r =>
            have hst : starEach (b :: r) X.env = (false, eval b X.env) :: starEach r X.env := by
              cases es with
              | nil => simp [okEs] at h4
              | cons b es => rw [okEs, Bool.and_eq_true] at h4; exact ok_star h4.1 _ _
            have hpl : (backTo pos (starEach r X.env)).any (·.1) = false := by
              cases es with
              | nil => simp [okEs] at h4
              | cons b es => rw [okEs, Bool.and_eq_true] at h4; exact (ok_stars h4.2).1
            have p := RDf.rd (f_me (pos := pos) (m := m) po.1 pa (ok_base h2) (by
              rw [b2]
              have hb : decide ((b :: r).length + ([] : List Keyword).length + (if ([] : List Keyword).isEmpty then 0 else 1) < 30) = true := by
                rw [b3]
                simp
                omega
              rw [hb]
              rfl) (by rw [h1]; simp) hst hpl)
            exact ⟨p, plain_test p fun _ => rfl⟩
        | cons _ _ => simp [okE] at h
      | _ => simp [okE] at h
    | _ => simp [okE] at h
  | .isi a t, X, e, C, hn, h => by
    obtain ⟨l, p, p2, pos, rfl, h1, h2, h3⟩ := inv_isi h
    have q : PE X (.Call (.Name "isinstance" p) [l, .Name (t.name : Str) p2] [] pos) (RD X.K (.isi a t)) := s_isi C h1 h2 (sE k a X l C (fun n z => hn n (by simp [needE, z])) h3).1 (fun es => ok_star h3 es _)
    exact ⟨q, plain_test q fun _ => rfl⟩
  | .lc i it cd el, X, e, C, hn, h => by
    obtain ⟨e', x, px, w, ifs, scope, pos, rfl, h1, h2, h3, h4, h5, h6⟩ := inv_lc h
    have pw := sW k it X (.Name x px) w C (fun n z => hn n (by simp [needE, z])) h3
    have pt : ∀ (s : Shared) (H : Hp) (A : Addr) (cl : List (Str × Addr)) (fp : List Addr), PTs (X.blk s H scope (compEnvC scope cl A X.env) fp) ifs (RC X.K cd) := fun s H A cl fp => by
      cases cd with
      | no =>
        cases ifs with
        | nil => exact pts_nil
        | cons _ _ => cases h4
      | yes c =>
        match ifs, h4 with
        | [f], h4 => exact pts_one (sE k c (X.blk s H scope (compEnvC scope cl A X.env) fp) f (C.blk s H scope _ fp) (fun n z => hn n (by simp [needE, needO, z])) h4).2
        | [], h4 => cases h4
        | _ :: _ :: _, h4 => cases h4
    have pe : ∀ (s : Shared) (H : Hp) (A : Addr) (cl : List (Str × Addr)) (fp : List Addr), PE (X.blk s H scope (compEnvC scope cl A X.env) fp) e' (RD X.K el) := fun s H A cl fp =>
      (sE k el _ e' (C.blk s H scope _ fp) (fun n z => hn n (by simp [needE, z])) h5).1
    have p := RDf.rd (f_lc (pos := pos) C h1 (blkOk_by h2) pw (fun s H A cl fp => blk_target C h1 h6 s H A cl fp) pt pe (ok_fold h3))
    exact ⟨p, plain_test p fun _ => rfl⟩
  | .lcP t it cd el, X, e, C, hn, h => by
    obtain ⟨e', tg, w, ifs, scope, pos, rfl, h1, h2, h3, h4, h5⟩ := inv_lcP h
    obtain ⟨lt, ho⟩ := okT_lt h1
    have pw := sW k it X tg w C (fun n z => hn n (by simp [needE, z])) h3
    have pt : ∀ (s : Shared) (H : Hp) (A : Addr) (cl : List (Str × Addr)) (fp : List Addr), PTs (X.blk s H scope (compEnvC scope cl A X.env) fp) ifs (RC X.K cd) := fun s H A cl fp => by
      cases cd with
      | no =>
        cases ifs with
        | nil => exact pts_nil
        | cons _ _ => cases h4
      | yes c =>
        match ifs, h4 with
        | [f], h4 => exact pts_one (sE k c (X.blk s H scope (compEnvC scope cl A X.env) fp) f (C.blk s H scope _ fp) (fun n z => hn n (by simp [needE, needO, z])) h4).2
        | [], h4 => cases h4
        | _ :: _ :: _, h4 => cases h4
    have pe : ∀ (s : Shared) (H : Hp) (A : Addr) (cl : List (Str × Addr)) (fp : List Addr), PE (X.blk s H scope (compEnvC scope cl A X.env) fp) e' (RD X.K el) := fun s H A cl fp =>
      (sE k el _ e' (C.blk s H scope _ fp) (fun n z => hn n (by simp [needE, z])) h5).1
    have p := RDf.rd (f_lcP (pos := pos) C lt (blkOk_by h2) ho pw (fun s H A cl fp => blk_targetT C h1 s H A cl fp) pt pe (ok_fold h3))
    exact ⟨p, plain_test p fun _ => rfl⟩
  | .lc2 t it t2 it2 cd el, X, e, C, hn, h => by
    obtain ⟨e', tg, w, tg2, w2, ifs, scope, pos, rfl, h1, h2, h3, h4, h5, h6, h7⟩ := inv_lc2 h
    obtain ⟨lt, ho⟩ := okT_lt h1
    obtain ⟨lt2, ho2⟩ := okT_lt h2
    have pw := sW k it X tg w C (fun n z => hn n (by simp [needE, z])) h4
    have pw2 : ∀ (s : Shared) (H : Hp) (A : Addr) (cl : List (Str × Addr)) (fp : List Addr), PI (X.blk s H scope (compEnvC scope cl A X.env) fp) tg2 w2 (RW X.K it2) := fun s H A cl fp =>
      sW k it2 _ tg2 w2 (C.blk s H scope _ fp) (fun n z => hn n (by simp [needE, z])) h5
    have pt : ∀ (s : Shared) (H : Hp) (A : Addr) (cl : List (Str × Addr)) (fp : List Addr), PTs (X.blk s H scope (compEnvC scope cl A X.env) fp) ifs (RC X.K cd) := fun s H A cl fp => by
      cases cd with
      | no =>
        cases ifs with
        | nil => exact pts_nil
        | cons _ _ => cases h6
      | yes c =>
        match ifs, h6 with
        | [f], h6 => exact pts_one (sE k c (X.blk s H scope (compEnvC scope cl A X.env) fp) f (C.blk s H scope _ fp) (fun n z => hn n (by simp [needE, needO, z])) h6).2
        | [], h6 => cases h6
        | _ :: _ :: _, h6 => cases h6
    have pe : ∀ (s : Shared) (H : Hp) (A : Addr) (cl : List (Str × Addr)) (fp : List Addr), PE (X.blk s H scope (compEnvC scope cl A X.env) fp) e' (RD X.K el) := fun s H A cl fp =>
      (sE k el _ e' (C.blk s H scope _ fp) (fun n z => hn n (by simp [needE, z])) h7).1
    have p := RDf.rd (f_lc2 (pos := pos) C lt lt2 (blkOk_by h3) (by rw [List.map_append, ho, ho2]) pw (fun s H A cl fp => blk_targetT C h1 s H A cl fp) pw2 (fun s H A cl fp => blk_targetT C h2 s H A cl fp) pt pe (ok_fold h4) (fun env => ok_fold h5))
    exact ⟨p, plain_test p fun _ => rfl⟩
  | .sset a, X, e, C, hn, h => by
    obtain ⟨l, p1, p2, q, pos, rfl, h1, h2, h3⟩ := inv_sset h
    have pa := sE k a X l C (fun n z => hn n (by simp [needE, z])) h3
    have p : PE X (.Call (.Name "sorted" p1) [.Call (.Name "set" p2) [l] [] q] [] pos) (RD X.K (.sset a)) := RDf.rd (f_sset C h1 h2 pa.1 (ok_star h3 _ _))
    exact ⟨p, plain_test p fun _ => rfl⟩
  | .lrng es, X, e, C, hn, h => by
    obtain ⟨l, p1, p2, q, pos, rfl, h1, h2, h3, h4⟩ := inv_lrng h
    have p : PE X (.Call (.Name "list" p1) [.Call (.Name "range" p2) l [] q] [] pos) (RD X.K (.lrng es)) := by
      match es, l, h3, h4, hn with
      | .cons a .nil, [x], h3, h4, hn =>
        simp only [okEs, Bool.and_eq_true] at h3
        have pa := sE k a X x C (fun n z => hn n (by simp [needE, needEs, z])) h3.1
        exact RDf.rd (f_lrng1 C h1 h2 pa.1 (ok_star h3.1 _ _))
      | .cons a (.cons b .nil), [x, y], h3, h4, hn =>
        simp only [okEs, Bool.and_eq_true] at h3
        have pa := sE k a X x C (fun n z => hn n (by simp [needE, needEs, z])) h3.1
        have pb := sE k b X y C (fun n z => hn n (by simp [needE, needEs, z])) h3.2.1
        exact RDf.rd (f_lrng2 C h1 h2 pa.1 pb.1 (ok_star h3.1 _ _) (ok_star h3.2.1 _ _) (by rw [ok_star h3.2.1]; rfl))
      | .nil, _, h3, h4, hn => simp [exLen] at h4
      | .cons a (.cons b (.cons c d)), _, h3, h4, hn => simp [exLen] at h4
      | .cons a .nil, [], h3, h4, hn => simp [okEs] at h3
      | .cons a .nil, _ :: _ :: _, h3, h4, hn => simp [okEs] at h3
      | .cons a (.cons b .nil), [], h3, h4, hn => simp [okEs] at h3
      | .cons a (.cons b .nil), [_], h3, h4, hn => simp [okEs] at h3
      | .cons a (.cons b .nil), _ :: _ :: _ :: _, h3, h4, hn => simp [okEs] at h3
    exact ⟨p, plain_test p fun _ => rfl⟩
theorem sB (k : Nat) (isAnd : Bool) : ∀ (es : Exs) (X : Cx) (l : List Expr) (pos : Pos), Cxt k X → (∀ n ∈ needEs es, NeedX k X n) → okEs X.N X.env.scope es l = true → 0 < exLen es →
    PE X (.BoolOp (if isAnd = true then .And else .Or) l pos) (RDB X.K isAnd es) ∧ PW X (.BoolOp (if isAnd = true then .And else .Or) l pos) (RTB X.K isAnd es)
  | .nil, X, l, pos, C, hn, h, h0 => absurd h0 (by simp [exLen])
  | .cons a es, X, [], pos, C, hn, h, h0 => by simp [okEs] at h
  | .cons a .nil, X, e :: l, pos, C, hn, h, h0 => by
    rw [okEs, Bool.and_eq_true] at h
    have pa := sE k a X e C (fun n z => hn n (by simp [needEs, z])) h.1
    cases l with
    | nil => exact b_one pa.1 pa.2
    | cons _ _ => simp [okEs] at h
  | .cons a (.cons b es), X, e :: l, pos, C, hn, h, h0 => by
    rw [okEs, Bool.and_eq_true] at h
    have pa := sE k a X e C (fun n z => hn n (by simp [needEs, z])) h.1
    have pb := sB k isAnd (.cons b es) X l pos C (fun n z => hn n (by rw [needEs]; exact List.mem_append_right _ z)) h.2 (by simp [exLen])
    cases l with
    | nil => simp [okEs] at h
    | cons e2 l => exact b_cons pa.1 pa.2 pb.1 pb.2
theorem sA (k : Nat) : ∀ (es : Exs) (X : Cx) (l : List Expr), Cxt k X → (∀ n ∈ needEs es, NeedX k X n) → okEs X.N X.env.scope es l = true → PA X l (RA X.K es)
  | .nil, X, [], C, hn, h => a_nil
  | .nil, X, _ :: _, C, hn, h => by simp [okEs] at h
  | .cons _ _, X, [], C, hn, h => by simp [okEs] at h
  | .cons a es, X, e :: l, C, hn, h => by
    rw [okEs, Bool.and_eq_true] at h
    exact a_cons (sE k a X e C (fun n z => hn n (by simp [needEs, z])) h.1).1 (sA k es X l C (fun n z => hn n (by simp [needEs, z])) h.2) (ok_star h.1 _ _)
theorem sO (k : Nat) : ∀ (o : OEx) (X : Cx) (e : Option Expr), Cxt k X → (∀ n ∈ needO o, NeedX k X n) → okO X.N X.env.scope o e = true → PO X e (RO X.K o)
  | .no, X, none, C, hn, h => o_no
  | .no, X, some _, C, hn, h => by simp [okO] at h
  | .yes _, X, none, C, hn, h => by simp [okO] at h
  | .yes a, X, some e, C, hn, h => by
    rw [okO] at h
    exact o_yes (sE k a X e C (fun n z => hn n (by simpa [needO] using z)) h).1
theorem sW (k : Nat) : ∀ (w : Wk) (X : Cx) (tg e : Expr), Cxt k X → (∀ n ∈ needW w, NeedX k X n) → okW X.N X.env.scope w e = true → PI X tg e (RW X.K w)
  | .rng es, X, tg, e, C, hn, h => by
    cases e with
    | Call fn l kw pos =>
      cases fn with
      | Name x p =>
        cases kw with
        | nil =>
          simp only [okW, Bool.and_eq_true, decide_eq_true_eq] at h
          obtain ⟨⟨rfl, h1⟩, h2⟩ := h
          exact w_rng C h1 h2 (sA k es X l C (fun n z => hn n (by simpa [needW] using z)) h2)
        | cons _ _ => simp [okW] at h
      | _ => simp [okW] at h
    | _ => simp [okW] at h
  | .ex a, X, tg, e, C, hn, h => by
    rw [okW] at h
    exact w_ex (sE k a X e C (fun n z => hn n (by simpa [needW] using z)) h).1
end
end Pu
set_option Elab.async false
set_option linter.all false
set_option maxRecDepth 100000
namespace Pu
open PySem PySem.Spec PyProof.Rows L2

/-! ### statements -/
mutual
inductive St where
  | asg (own : Bool) (i : Nat) (e : Ex)
  | unp (is : List Nat) (e : Ex)
  | par (is : List Nat) (es : Exs)
  | aug (i : Nat) (op : Operator) (e : Ex)
  | app (i : Nat) (e : Ex)
  | ext (i : Nat) (e : Ex)
  | setI (i : Nat) (k e : Ex)
  | pop (i : Nat)
  | popT (j i : Nat) (k : OEx)
  | ret (e : Ex)
  | ite (c : Ex) (a b : Sts)
  | for_ (i : Nat) (w : Wk) (b : Sts)
  | forT (is : List Nat) (w : Wk) (b : Sts)
  | whl (c : Ex) (b : Sts)
  | brk
  | cnt
  | pass
inductive Sts where
  | nil
  | cons (s : St) (ss : Sts)
end
inductive Fl where
  | nx | rt (d : D) | bk | ct
mutual
/-- no list within -/
def noL : D → Bool
  | .lst _ => false
  | .tup l => noLs l
  | _ => true
def noLs : List D → Bool
  | [] => true
  | x :: xs => noL x && noLs xs
end
def frzS : Slot → Slot
  | .own l => .val (.lst l)
  | s => s
/-- lists that may be held elsewhere are no longer one's own -/
def frz (S : List Nat) : Nat → Env → Env
  | _, [] => []
  | k, s :: r => (if S.contains k then frzS s else s) :: frz S (k + 1) r
def settle (ok : Bool) (S : List Nat) (env : Env) : Env := if ok then env else frz S 0 env
/-- an expression whose list is a new one -/
def fresh : Ex → Bool
  | .lst _ => true
  | .lc _ _ _ _ => true
  | .lcP _ _ _ _ => true
  | .lc2 _ _ _ _ _ _ => true
  | .lrng _ => true
  | .sset _ => true
  | .bin _ _ _ => true
  | .sl _ _ _ => true
  | .rev _ => true
  | .bi _ _ => true
  | _ => false
abbrev RsS := Option (Fl × Env × Pool)
def forGo (turn : D → Env → Pool → RsS) : List D → Env → Pool → RsS
  | [], env, pl => some (.nx, env, pl)
  | x :: xs, env, pl => (turn x env pl).bind fun r => match r.1 with
    | .nx => forGo turn xs r.2.1 r.2.2
    | .ct => forGo turn xs r.2.1 r.2.2
    | .bk => some (.nx, r.2)
    | .rt d => some (.rt d, r.2)
def whGo (tst : Env → Pool → Option (Bool × Pool)) (body : Env → Pool → RsS) : Nat → Env → Pool → RsS
  | 0, _, _ => none
  | n + 1, env, pl => (tst env pl).bind fun t => if t.1 then (body env t.2).bind fun r => (match r.1 with
    | .nx => whGo tst body n r.2.1 r.2.2
    | .ct => whGo tst body n r.2.1 r.2.2
    | .bk => some (.nx, r.2)
    | .rt d => some (.rt d, r.2)) else some (.nx, env, t.2)
def evT (c : Ex) (env : Env) (pl : Pool) : Option (Bool × Pool) := (evE c env pl).bind fun r => (truD r.1).map (·, r.2)
def frzW : Wk → Env → Env
  | .rng _, env => env
  | .ex e, env => frz (varsE e) 0 env
def ownAt (env : Env) (i : Nat) : Option (List D) := match env[i]? with
  | some (.own l) => some l
  | _ => none
mutual
def evS (n : Nat) : St → Env → Pool → RsS
  | .asg own i e, env, pl => (evE e env pl).bind fun r =>
      if own then (match r.1 with
        | .lst l => some (.nx, (settle (noLs l) (varsE e) env).set i (.own l), r.2)
        | _ => none)
      else some (.nx, (settle (noL r.1) (varsE e) env).set i (.val r.1), r.2)
  | .unp is e, env, pl => (evE e env pl).bind fun r => (match r.1 with
      | .tup ds => if ds.length = is.length then some (.nx, setAll is ds (settle (noLs ds) (varsE e) env), r.2) else none
      | _ => none)
  | .par is es, env, pl => (evEs es env pl).bind fun r => if r.1.length = is.length then some (.nx, setAll is r.1 (settle (noLs r.1) (varsEs es) env), r.2) else none
  | .aug i op e, env, pl => (match env[i]? with
      | some (.val a) => (evE e env pl).bind fun r => (match a, r.1 with
        | .int _, .int _ => (opBin op a r.1).map fun d => (.nx, env.set i (.val d), r.2)
        | .str _, .str _ => (opBin op a r.1).map fun d => (.nx, env.set i (.val d), r.2)
        | _, _ => none)
      | _ => none)
  | .app i e, env, pl => (evE e env pl).bind fun r => (ownAt (settle (noL r.1) (varsE e) env) i).bind fun l => gd (l.length < sizeLine) (.nx, (settle (noL r.1) (varsE e) env).set i (.own (l ++ [r.1])), r.2)
  | .ext i e, env, pl => (evE e env pl).bind fun r => (match r.1 with
      | .lst ds => (ownAt (settle (noLs ds) (varsE e) env) i).bind fun l => gd (l.length + ds.length ≤ sizeLine) (.nx, (settle (noLs ds) (varsE e) env).set i (.own (l ++ ds)), r.2)
      | _ => none)
  | .setI i k e, env, pl => (evE e env pl).bind fun r => (evE k (settle (noL r.1) (varsE e) env) r.2).bind fun q => (match q.1 with
      | .int j => (ownAt (settle (noL r.1) (varsE e) env) i).bind fun l => (ixN l.length j).map fun m => (.nx, (settle (noL r.1) (varsE e) env).set i (.own (l.set m r.1)), q.2)
      | _ => none)
  | .pop i, env, pl => (ownAt env i).bind fun l => if l = [] then none else some (.nx, env.set i (.own l.dropLast), pl)
  | .popT j i k, env, pl => (evO k env pl).bind fun r => (ownAt env i).bind fun l => (match r.1 with
      | none => (l[l.length - 1]?).map fun d => (.nx, (env.set i (.own l.dropLast)).set j (.val d), r.2)
      | some m => gd (-(2 ^ 62) ≤ m ∧ m < 2 ^ 62) () |>.bind fun _ => (ixN l.length m).bind fun q => (l[q]?).map fun d => (.nx, (env.set i (.own (l.eraseIdx q))).set j (.val d), r.2))
  | .ret e, env, pl => (evE e env pl).map fun r => (.rt r.1, env, r.2)
  | .ite c a b, env, pl => (evT c env pl).bind fun t => if t.1 then evSs n a env t.2 else evSs n b env t.2
  | .for_ i w b, env, pl => (evW w env pl).bind fun r => forGo (fun x env pl => evSs n b (env.set i (.val x)) pl) r.1 (frzW w env) r.2
  | .forT is w b, env, pl => (evW w env pl).bind fun r => forGo (fun x env pl => match x with
      | .tup ds => if ds.length = is.length then evSs n b (setAll is ds env) pl else none
      | _ => none) r.1 (frzW w env) r.2
  | .whl c b, env, pl => whGo (evT c) (evSs n b) n env pl
  | .brk, env, pl => some (.bk, env, pl)
  | .cnt, env, pl => some (.ct, env, pl)
  | .pass, env, pl => some (.nx, env, pl)
def evSs (n : Nat) : Sts → Env → Pool → RsS
  | .nil, env, pl => some (.nx, env, pl)
  | .cons s ss, env, pl => (evS n s env pl).bind fun r => match r.1 with
    | .nx => evSs n ss r.2.1 r.2.2
    | f => some (f, r.2)
end
mutual
def needS : St → List Need
  | .asg _ _ e => needE e
  | .unp _ e => needE e
  | .par _ es => needEs es
  | .aug _ _ e => needE e
  | .app _ e => needE e
  | .ext _ e => needE e
  | .setI _ k e => needE k ++ needE e
  | .pop _ => []
  | .popT _ _ k => needO k
  | .ret e => needE e
  | .ite c a b => needE c ++ (needSs a ++ needSs b)
  | .for_ _ w b => needW w ++ needSs b
  | .forT _ w b => needW w ++ needSs b
  | .whl c b => needE c ++ needSs b
  | .brk => []
  | .cnt => []
  | .pass => []
def needSs : Sts → List Need
  | .nil => []
  | .cons s ss => needS s ++ needSs ss
end
/-! ### the text's statements -/
def locB (sc : Scope) (x : Str) : Bool := match sc.names.lookup x with | some .local => true | some .cell => true | _ => false
def okNs (N : List Str) (sc : Scope) : List Nat → List Expr → Bool
  | [], [] => true
  | i :: is, .Name x _ :: l => (decide (N[i]? = some x) && locB sc x) && okNs N sc is l
  | _, _ => false
def isStarE : Expr → Bool
  | .Starred .. => true
  | _ => false
def swNames (sc : Scope) (ts : List Expr) : List Str := ts.filterMap fun
  | .Name id pos => if sc.names.lookup id == some .local && pos.line == (ts.head?.map (·.pos.line)).getD 0 then some id else none
  | _ => none
def swB (sc : Scope) (ts vs : List Expr) : Option Bool :=
  if (!(ts.length == 2 || ts.length == 3) || vs.length != ts.length) = true then some false
  else if ((swNames sc ts).length != ts.length || (swNames sc ts).eraseDups.length != (swNames sc ts).length) = true then some false
  else if vs.all (foldedForSure 8) = true then some false
  else if vs.all (constantsAlone 8) = true then none else some true
def locAll (sc : Scope) (ts : List Expr) : Bool := ts.all fun
  | .Name x _ => decide (sc.names.lookup x = some .local)
  | _ => false
mutual
def okS (N : List Str) (sc : Scope) : St → Stmt → Bool
  | .asg own i e, .Assign [.Name x _] y _ => (decide (N[i]? = some x) && locB sc x) && (okE N sc e y && (!own || fresh e))
  | .unp is e, .Assign [.Tuple l _ _] y _ => okNs N sc is l && (okE N sc e y && (match y with | .Tuple _ _ _ => false | _ => true))
  | .par is es, .Assign [.Tuple l _ _] (.Tuple vs _ _) _ => okNs N sc is l && (okEs N sc es vs && ((match swB sc l vs with
      | none => false
      | some false => true
      | some true => locAll sc l && decide (is.Nodup)) && decide (is.length < 16)))
  | .aug i op e, .AugAssign (.Name x _) o y _ => (decide (N[i]? = some x) && locB sc x) && (okE N sc e y && (decide (o = op) && decide (op ≠ .Pow)))
  | .app i e, .Expr (.Call (.Attribute (.Name x _) m p) [y] [] q) _ => (decide (N[i]? = some x) && visB sc x) && (okE N sc e y && (decide (m = "append") && decide (p.endLine = q.line)))
  | .ext i e, .Expr (.Call (.Attribute (.Name x _) m p) [y] [] q) _ => (decide (N[i]? = some x) && visB sc x) && (okE N sc e y && (decide (m = "extend") && decide (p.endLine = q.line)))
  | .setI i k e, .Assign [.Subscript (.Name x _) y _] z _ => (decide (N[i]? = some x) && visB sc x) && (okE N sc k y && (okE N sc e z && (match y with | .Slice _ _ _ _ => false | _ => true)))
  | .pop i, .Expr (.Call (.Attribute (.Name x _) m p) [] [] q) _ => (decide (N[i]? = some x) && visB sc x) && (decide (m = "pop") && decide (p.endLine = q.line))
  | .popT j i k, .Assign [.Name z _] (.Call (.Attribute (.Name x _) m p) l [] q) _ => ((decide (N[j]? = some z) && locB sc z) && ((decide (N[i]? = some x) && visB sc x) && (decide (m = "pop") && decide (p.endLine = q.line)))) && (match k, l with
      | .no, [] => true
      | .yes e, [y] => okE N sc e y
      | _, _ => false)
  | .ret e, .Return (some y) _ => okE N sc e y
  | .ite c a b, .If x l r _ => okE N sc c x && (okSs N sc a l && okSs N sc b r)
  | .for_ i w b, .For (.Name x _) y l [] _ => (decide (N[i]? = some x) && locB sc x) && (okW N sc w y && okSs N sc b l)
  | .forT is w b, .For (.Tuple t _ _) y l [] _ => okNs N sc is t && (okW N sc w y && okSs N sc b l)
  | .whl c b, .While x l [] _ => okE N sc c x && okSs N sc b l
  | .brk, .Break _ => true
  | .cnt, .Continue _ => true
  | .pass, .Pass _ => true
  | _, _ => false
def okSs (N : List Str) (sc : Scope) : Sts → List Stmt → Bool
  | .nil, [] => true
  | .cons s ss, x :: l => okS N sc s x && okSs N sc ss l
  | _, _ => false
end
theorem sw_eq {ts vs : List Expr} {k k2 : Nat} {p p2 : Pos} {env : PySem.Env} (hk : env.scope.kind = .function) (hst : vs.any isStarE = false) {b : Bool} (h : swB env.scope ts vs = some b) :
    swappedStores [.Tuple ts k p] (.Tuple vs k2 p2) env = pure (if b = true then some (swNames env.scope ts) else none) := by
  have hb : env.blockKind = .function := by unfold Env.blockKind; rw [hk]; rfl
  unfold swB at h
  unfold swappedStores
  simp only [hb]
  by_cases h1 : (!(ts.length == 2 || ts.length == 3) || vs.length != ts.length) = true
  · rw [if_pos h1] at h
    cases h
    simp only [h1, Bool.true_or, if_true]
    rfl
  · rw [if_neg h1] at h
    have h1' : (!(ts.length == 2 || ts.length == 3) || vs.length != ts.length) = false := by simpa using h1
    simp only [h1', Bool.false_or]
    have e2 : ((ScopeKind.function != ScopeKind.function) = true) = False := by simp
    simp only [e2, if_false]
    change (if vs.any isStarE = true then pure none else if ((swNames env.scope ts).length != ts.length || (swNames env.scope ts).eraseDups.length != (swNames env.scope ts).length) = true then pure none
      else if vs.all (foldedForSure 8) = true then pure none else if vs.all (constantsAlone 8) = true then _ else pure (some (swNames env.scope ts))) = _
    rw [if_neg (by rw [hst]; exact Bool.false_ne_true)]
    by_cases h2 : ((swNames env.scope ts).length != ts.length || (swNames env.scope ts).eraseDups.length != (swNames env.scope ts).length) = true
    · rw [if_pos h2] at h ⊢
      cases h
      rfl
    · rw [if_neg h2] at h ⊢
      by_cases h3 : vs.all (foldedForSure 8) = true
      · rw [if_pos h3] at h ⊢
        cases h
        rfl
      · rw [if_neg h3] at h ⊢
        by_cases h4 : vs.all (constantsAlone 8) = true
        · rw [if_pos h4] at h
          cases h
        · rw [if_neg h4] at h ⊢
          cases h
          rfl
end Pu
set_option Elab.async false
set_option linter.all false
set_option maxRecDepth 100000
namespace Pu
open PySem PySem.Spec PyProof.Rows L2

abbrev hdF (hd0 : Addr → Prop) (pa : List Addr) (ow : Nat → Option Addr) : Addr → Prop := fun b => hd0 b ∨ b ∈ pa ∨ ∃ i, ow i = some b
abbrev hdS (hd0 : Addr → Prop) (pa : List Addr) (ow : Nat → Option Addr) (S : List Nat) : Addr → Prop := fun b => hd0 b ∨ b ∈ pa ∨ ∃ i, i ∉ S ∧ ow i = some b
/-- the slots stand for the environment; ow: the lists that are one's own. hd0, H0, pa0: the entry -/
structure RelS (K : PySem.W.Frag) (L : Nat) (hd0 : Addr → Prop) (H0 : Hp) (pa0 : List Addr) (σ : L2.St) (H : Hp) (env : Env) (pl : Pool) (pa : List Addr) (ow : Nat → Option Addr) : Prop where
  len : σ.length = L
  al0 : ∀ b, hd0 b → H0 b ≠ none
  sub0 : ∀ b ∈ pa0, hd0 b
  grow : Grow pa0 H0 pa H
  sta : Sta H pa pl
  own : ∀ (i : Nat) (l : List D), env[i]? = some (Slot.own l) → ∃ p vs, ow i = some p ∧ σ[i]? = some (some (.ref p)) ∧ H p = some (.lst vs) ∧ Rps K (vw H (hdF hd0 pa ow)) vs l
  val : ∀ (i : Nat) (d : D), env[i]? = some (Slot.val d) → ∃ v, σ[i]? = some (some v) ∧ Rp K (vw H (hdF hd0 pa ow)) v d
  pol : ∀ i : Nat, env[i]? = some Slot.pool → ∃ p r, pa = p :: r ∧ σ[i]? = some (some (.ref p))
  inj : ∀ (i j : Nat) (p : Addr), ow i = some p → ow j = some p → i = j
  ofr : ∀ (i : Nat) (p : Addr), ow i = some p → H0 p = none ∧ p ∉ pa ∧ ∃ vs, H p = some (.lst vs)
section
variable {K : PySem.W.Frag} {L : Nat} {hd0 : Addr → Prop} {H0 H H' : Hp} {pa0 pa pa' : List Addr} {σ : L2.St} {env : Env} {pl pl' : Pool} {ow : Nat → Option Addr} {S : List Nat} {v : V} {d : D}
theorem RelS.at_ (r : RelS K L hd0 H0 pa0 σ H env pl pa ow) : At K σ env S H (hdS hd0 pa ow S) pa pl := by
  refine ⟨fun b hb => .inr (.inl hb), fun b hb => ?_, r.sta, fun i hi d e => ?_, fun i hi e => r.pol i e⟩
  · rcases hb with hb | hb | ⟨i, _, hb⟩
    · by_cases hp : b ∈ pa0
      · have e := r.grow.same (by intro z; rw [z] at hp; cases hp)
        exact r.sta.al b (by rw [e]; exact hp)
      · cases q : H0 b with
        | none => exact absurd q (r.al0 b hb)
        | some o => rw [(r.grow.keep b o hp q).2]; simp
    · exact r.sta.al b hb
    · obtain ⟨_, _, vs, h⟩ := r.ofr i b hb
      rw [h]; simp
  · have le : Le (vw H (hdF hd0 pa ow)) (vw H (hdS hd0 pa ow S)) := vw_anti fun b h => h.imp id (Or.imp id fun ⟨i, _, z⟩ => ⟨i, z⟩)
    unfold look at e
    cases q : env[i]? with
    | none => rw [q] at e; cases e
    | some s =>
      rw [q] at e
      cases s with
      | none => cases e
      | pool => cases e
      | val d' =>
        cases Option.some.inj (show some d' = some d from e)
        obtain ⟨v, e1, rv⟩ := r.val i _ q
        exact ⟨v, e1, rv.le le⟩
      | own l =>
        cases Option.some.inj (show some (D.lst l) = some d from e)
        obtain ⟨p, vs, e1, e2, e3, rv⟩ := r.own i l q
        obtain ⟨f1, f2, _⟩ := r.ofr i p e1
        refine ⟨_, e2, .mkL (vw_of ?_ e3) (rv.le le)⟩
        rintro (z | z | ⟨j, z1, z2⟩)
        · exact r.al0 p z f1
        · exact f2 z
        · exact z1 (by rw [r.inj j i p z2 e1]; exact hi)
theorem RelS.next (r : RelS K L hd0 H0 pa0 σ H env pl pa ow) (s : Sta H' pa' pl') (g : Grow pa H pa' H') : RelS K L hd0 H0 pa0 σ H' env pl' pa' ow := by
  have le : Le (vw H (hdF hd0 pa ow)) (vw H' (hdF hd0 pa' ow)) := fun b o e => by
    obtain ⟨n, q⟩ := vw_some e
    obtain ⟨n', q'⟩ := g.keep b o (fun z => n (.inr (.inl z))) q
    exact vw_of (fun z => z.elim (fun z => n (.inl z)) (fun z => z.elim n' fun z => n (.inr (.inr z)))) q'
  refine ⟨r.len, r.al0, r.sub0, r.grow.trans g, s, fun i l e => ?_, fun i d e => ?_, fun i e => ?_, r.inj, fun i p e => ?_⟩
  · obtain ⟨p, vs, e1, e2, e3, rv⟩ := r.own i l e
    obtain ⟨_, f2, _⟩ := r.ofr i p e1
    exact ⟨p, vs, e1, e2, (g.keep p _ f2 e3).2, rv.le le⟩
  · obtain ⟨v, e1, rv⟩ := r.val i d e
    exact ⟨v, e1, rv.le le⟩
  · obtain ⟨p, q, e1, e2⟩ := r.pol i e
    exact ⟨p, q, by rw [g.same (by rw [e1]; simp)]; exact e1, e2⟩
  · obtain ⟨f1, f2, vs, f3⟩ := r.ofr i p e
    obtain ⟨g1, g2⟩ := g.keep p _ f2 f3
    exact ⟨f1, g1, vs, g2⟩
mutual
theorem noL_rp {F F' : Hp} (h : ∀ b o, F b = some o → (∀ xs, o ≠ .lst xs) → F' b = some o) : ∀ {d : D} {v : V}, noL d = true → Rp K F v d → Rp K F' v d
  | .non, _, _, r => by cases r; exact .mnon
  | .bl _, _, _, r => by cases r; exact .mbl _
  | .int _, _, _, r => by cases r; exact .mint _
  | .str _, _, _, r => by cases r; exact .mstr _
  | .lst _, _, n, _ => by cases n
  | .tup ds, _, n, r => by
    cases r with
    | mkT hs ha =>
      refine .mkT ?_ (noLs_rp h (by unfold noL at n; exact n) ha)
      rcases hs with (hs | ⟨o, hs⟩) | hs
      · exact .inl (.inl (h _ _ hs (fun xs z => by cases z)))
      · exact .inl (.inr ⟨o, h _ _ hs (fun xs z => by cases z)⟩)
      · exact .inr hs
theorem noLs_rp {F F' : Hp} (h : ∀ b o, F b = some o → (∀ xs, o ≠ .lst xs) → F' b = some o) : ∀ {ds : List D} {vs : List V}, noLs ds = true → Rps K F vs ds → Rps K F' vs ds
  | [], _, _, r => by cases r; exact .nil
  | d :: ds, _, n, r => by
    unfold noLs at n
    rw [Bool.and_eq_true] at n
    cases r with
    | cons h1 h2 => exact .cons (noL_rp h n.1 h1) (noLs_rp h n.2 h2)
end
theorem frz_get (S : List Nat) : ∀ (env : Env) (k i : Nat), (frz S k env)[i]? = (env[i]?).map fun s => if S.contains (k + i) then frzS s else s
  | [], k, i => by simp [frz]
  | s :: r, k, 0 => by simp [frz]
  | s :: r, k, i + 1 => by
    rw [frz, List.getElem?_cons_succ, frz_get S r (k + 1) i, List.getElem?_cons_succ]
    have e : k + 1 + i = k + (i + 1) := by omega
    rw [e]
/-- what settling leaves hidden -/
def owS (b : Bool) (S : List Nat) (ow : Nat → Option Addr) : Nat → Option Addr := fun i => if b = true then ow i else if i ∈ S then none else ow i
theorem RelS.stl (r : RelS K L hd0 H0 pa0 σ H env pl pa ow) (b : Bool) (S : List Nat) : RelS K L hd0 H0 pa0 σ H (settle b S env) pl pa (owS b S ow) := by
  cases b with
  | true => exact r
  | false =>
    have sub : ∀ i p, owS false S ow i = some p → ow i = some p ∧ i ∉ S := fun i p e => by
      unfold owS at e
      rw [if_neg Bool.false_ne_true] at e
      split at e
      · cases e
      · exact ⟨e, by assumption⟩
    have ofsub : ∀ i p, ow i = some p → i ∉ S → owS false S ow i = some p := fun i p e n => by
      unfold owS
      rw [if_neg Bool.false_ne_true, if_neg n]
      exact e
    have le : Le (vw H (hdF hd0 pa ow)) (vw H (hdF hd0 pa (owS false S ow))) := vw_anti fun b h => h.imp id (Or.imp id fun ⟨i, z⟩ => ⟨i, (sub i b z).1⟩)
    have get : ∀ i : Nat, (settle false S env)[i]? = (env[i]?).map fun s => if S.contains i then frzS s else s := fun i => by
      show (frz S 0 env)[i]? = _
      rw [frz_get]
      simp
    refine ⟨r.len, r.al0, r.sub0, r.grow, r.sta, fun i l e => ?_, fun i d e => ?_, fun i e => ?_, fun i j p a c => r.inj i j p (sub i p a).1 (sub j p c).1, fun i p e => r.ofr i p (sub i p e).1⟩
    · rw [get] at e
      obtain ⟨s, e1, e2⟩ := Option.map_eq_some_iff.mp e
      by_cases hi : S.contains i = true
      · rw [if_pos hi] at e2
        cases s <;> cases e2
      · rw [if_neg hi] at e2
        subst e2
        obtain ⟨p, vs, g1, g2, g3, rv⟩ := r.own i l e1
        exact ⟨p, vs, ofsub i p g1 (by simpa using hi), g2, g3, rv.le le⟩
    · rw [get] at e
      obtain ⟨s, e1, e2⟩ := Option.map_eq_some_iff.mp e
      by_cases hi : S.contains i = true
      · rw [if_pos hi] at e2
        cases s with
        | val d' =>
          cases e2
          obtain ⟨v, g1, rv⟩ := r.val i _ e1
          exact ⟨v, g1, rv.le le⟩
        | own l =>
          cases e2
          obtain ⟨p, vs, g1, g2, g3, rv⟩ := r.own i l e1
          obtain ⟨f1, f2, _⟩ := r.ofr i p g1
          refine ⟨_, g2, .mkL (vw_of ?_ g3) (rv.le le)⟩
          rintro (z | z | ⟨j, z⟩)
          · exact r.al0 p z f1
          · exact f2 z
          · obtain ⟨z1, z2⟩ := sub j p z
            have := r.inj j i p z1 g1
            subst this
            exact z2 (by simpa using hi)
        | none => cases e2
        | pool => cases e2
      · rw [if_neg hi] at e2
        subst e2
        obtain ⟨v, g1, rv⟩ := r.val i d e1
        exact ⟨v, g1, rv.le le⟩
    · rw [get] at e
      obtain ⟨s, e1, e2⟩ := Option.map_eq_some_iff.mp e
      have : s = .pool := by
        by_cases hi : S.contains i = true
        · rw [if_pos hi] at e2; cases s <;> cases e2; rfl
        · rw [if_neg hi] at e2; exact e2
      subst this
      exact r.pol i e1
/-- what an expression gave, over what is hidden behind settling -/
theorem Rp.settled (r : RelS K L hd0 H0 pa0 σ H env pl pa ow) {pa1 : List Addr} (b : Bool) (hb : b = true → noL d = true) (h : Rp K (vw H (un (hdS hd0 pa1 ow S) pa)) v d) : Rp K (vw H (hdF hd0 pa (owS b S ow))) v d := by
  cases b with
  | true =>
    refine noL_rp (fun c o e n => ?_) (hb rfl) h
    obtain ⟨n1, e1⟩ := vw_some e
    refine vw_of ?_ e1
    rintro (z | z | ⟨i, z⟩)
    · exact n1 (.inl (.inl z))
    · exact n1 (.inr z)
    · obtain ⟨_, _, vs, f⟩ := r.ofr i c z
      rw [e1] at f
      exact n vs (Option.some.inj f)
  | false =>
    refine h.le (vw_anti fun c z => ?_)
    rcases z with z | z | ⟨i, z⟩
    · exact .inl (.inl z)
    · exact .inr z
    · unfold owS at z
      rw [if_neg Bool.false_ne_true] at z
      split at z
      · cases z
      · exact .inl (.inr (.inr ⟨i, by assumption, z⟩))
theorem Rps.settled {ds : List D} {vs : List V} (r : RelS K L hd0 H0 pa0 σ H env pl pa ow) {pa1 : List Addr} (b : Bool) (hb : b = true → noLs ds = true) (h : Rps K (vw H (un (hdS hd0 pa1 ow S) pa)) vs ds) : Rps K (vw H (hdF hd0 pa (owS b S ow))) vs ds := by
  cases b with
  | true =>
    refine noLs_rp (fun c o e n => ?_) (hb rfl) h
    obtain ⟨n1, e1⟩ := vw_some e
    refine vw_of ?_ e1
    rintro (z | z | ⟨i, z⟩)
    · exact n1 (.inl (.inl z))
    · exact n1 (.inr z)
    · obtain ⟨_, _, vs, f⟩ := r.ofr i c z
      rw [e1] at f
      exact n vs (Option.some.inj f)
  | false =>
    refine h.le (vw_anti fun c z => ?_)
    rcases z with z | z | ⟨i, z⟩
    · exact .inl (.inl z)
    · exact .inr z
    · unfold owS at z
      rw [if_neg Bool.false_ne_true] at z
      split at z
      · cases z
      · exact .inl (.inr (.inr ⟨i, by assumption, z⟩))
def owSet (ow : Nat → Option Addr) (i : Nat) (o : Option Addr) : Nat → Option Addr := fun j => if j = i then o else ow j
theorem env_get_set {env : Env} {i j : Nat} {s s' : Slot} (h : (env.set i s)[j]? = some s') : (j = i ∧ s = s') ∨ (j ≠ i ∧ env[j]? = some s') := by
  by_cases e : i = j
  · subst e
    refine .inl ⟨rfl, ?_⟩
    by_cases hl : i < env.length
    · rw [List.getElem?_set_self hl] at h
      exact Option.some.inj h
    · rw [List.getElem?_eq_none (by simpa using hl)] at h
      cases h
  · rw [List.getElem?_set_ne e] at h
    exact .inr ⟨fun z => e z.symm, h⟩
/-- a name is given a value -/
theorem RelS.setVal (r : RelS K L hd0 H0 pa0 σ H env pl pa ow) {i : Nat} (hi : i < L) (h : Rp K (vw H (hdF hd0 pa ow)) v d) : RelS K L hd0 H0 pa0 (σ.set i (some v)) H (env.set i (.val d)) pl pa (owSet ow i none) := by
  have sub : ∀ j p, owSet ow i none j = some p → ow j = some p ∧ j ≠ i := fun j p e => by
    unfold owSet at e
    split at e
    · cases e
    · exact ⟨e, by assumption⟩
  have le : Le (vw H (hdF hd0 pa ow)) (vw H (hdF hd0 pa (owSet ow i none))) := vw_anti fun b h => h.imp id (Or.imp id fun ⟨i, z⟩ => ⟨i, (sub i b z).1⟩)
  have hs : i < σ.length := by rw [r.len]; exact hi
  have ne : ∀ {j : Nat}, j ≠ i → (σ.set i (some v))[j]? = σ[j]? := fun {j} n => List.getElem?_set_ne (fun z => n z.symm)
  refine ⟨by rw [List.length_set]; exact r.len, r.al0, r.sub0, r.grow, r.sta, fun j l e => ?_, fun j d' e => ?_, fun j e => ?_, fun a b p x y => r.inj a b p (sub a p x).1 (sub b p y).1, fun j p e => r.ofr j p (sub j p e).1⟩
  · rcases env_get_set e with ⟨_, z⟩ | ⟨n, e⟩
    · cases z
    · obtain ⟨p, vs, g1, g2, g3, rv⟩ := r.own j l e
      exact ⟨p, vs, by unfold owSet; rw [if_neg n]; exact g1, by rw [ne n]; exact g2, g3, rv.le le⟩
  · rcases env_get_set e with ⟨z1, z⟩ | ⟨n, e⟩
    · subst z1
      cases z
      exact ⟨v, List.getElem?_set_self hs, h.le le⟩
    · obtain ⟨v', g1, rv⟩ := r.val j d' e
      exact ⟨v', by rw [ne n]; exact g1, rv.le le⟩
  · rcases env_get_set e with ⟨_, z⟩ | ⟨n, e⟩
    · cases z
    · obtain ⟨p, q, g1, g2⟩ := r.pol j e
      exact ⟨p, q, g1, by rw [ne n]; exact g2⟩
/-- a name is given a new list of its own -/
theorem RelS.setOwn (r : RelS K L hd0 H0 pa0 σ H env pl pa ow) {i : Nat} (hi : i < L) {p : Addr} {vs : List V} {l : List D} (hp : H p = none) (h : Rps K (vw H (hdF hd0 pa ow)) vs l) :
    RelS K L hd0 H0 pa0 (σ.set i (some (.ref p))) (upd H p (.lst vs)) (env.set i (.own l)) pl pa (owSet ow i (some p)) := by
  have np : p ∉ pa := fun z => r.sta.al p z hp
  have hs : i < σ.length := by rw [r.len]; exact hi
  have ne : ∀ {j : Nat}, j ≠ i → (σ.set i (some (V.ref p)))[j]? = σ[j]? := fun {j} n => List.getElem?_set_ne (fun z => n z.symm)
  have h0 : H0 p = none := by
    cases q : H0 p with
    | none => rfl
    | some o =>
      by_cases hp0 : p ∈ pa0
      · have e := r.grow.same (by intro z; rw [z] at hp0; cases hp0)
        exact absurd hp (r.sta.al p (by rw [e]; exact hp0))
      · rw [(r.grow.keep p o hp0 q).2] at hp; cases hp
  have sub : ∀ j q, owSet ow i (some p) j = some q → (j = i ∧ q = p) ∨ (j ≠ i ∧ ow j = some q) := fun j q e => by
    unfold owSet at e
    split at e
    · cases e; exact .inl ⟨by assumption, rfl⟩
    · exact .inr ⟨by assumption, e⟩
  have nq : ∀ j q, ow j = some q → q ≠ p := fun j q e z => by
    obtain ⟨_, _, ws, f⟩ := r.ofr j q e
    rw [z, hp] at f
    cases f
  have le : Le (vw H (hdF hd0 pa ow)) (vw (upd H p (.lst vs)) (hdF hd0 pa (owSet ow i (some p)))) := fun b o e => by
    obtain ⟨n, q⟩ := vw_some e
    have nb : b ≠ p := ne_of_none q hp
    refine vw_of ?_ (by rw [upd_ne nb]; exact q)
    rintro (z | z | ⟨j, z⟩)
    · exact n (.inl z)
    · exact n (.inr (.inl z))
    · rcases sub j b z with ⟨_, z⟩ | ⟨_, z⟩
      · exact nb z
      · exact n (.inr (.inr ⟨j, z⟩))
  refine ⟨by rw [List.length_set]; exact r.len, r.al0, r.sub0, r.grow.trans (.upd hp), r.sta.upd np, fun j l' e => ?_, fun j d' e => ?_, fun j e => ?_, fun a b q x y => ?_, fun j q e => ?_⟩
  · rcases env_get_set e with ⟨z1, z⟩ | ⟨n, e⟩
    · subst z1
      cases z
      exact ⟨p, vs, by unfold owSet; rw [if_pos rfl], List.getElem?_set_self hs, upd_same, h.le le⟩
    · obtain ⟨q, ws, g1, g2, g3, rv⟩ := r.own j l' e
      exact ⟨q, ws, by unfold owSet; rw [if_neg n]; exact g1, by rw [ne n]; exact g2, by rw [upd_ne (nq j q g1)]; exact g3, rv.le le⟩
  · rcases env_get_set e with ⟨_, z⟩ | ⟨n, e⟩
    · cases z
    · obtain ⟨v', g1, rv⟩ := r.val j d' e
      exact ⟨v', by rw [ne n]; exact g1, rv.le le⟩
  · rcases env_get_set e with ⟨_, z⟩ | ⟨n, e⟩
    · cases z
    · obtain ⟨q, t, g1, g2⟩ := r.pol j e
      exact ⟨q, t, g1, by rw [ne n]; exact g2⟩
  · rcases sub a q x with ⟨x1, x2⟩ | ⟨x1, x2⟩ <;> rcases sub b q y with ⟨y1, y2⟩ | ⟨y1, y2⟩
    · rw [x1, y1]
    · exact absurd x2 (nq b q y2)
    · exact absurd y2 (nq a q x2)
    · exact r.inj a b q x2 y2
  · rcases sub j q e with ⟨_, z⟩ | ⟨_, z⟩
    · subst z
      exact ⟨h0, np, vs, upd_same⟩
    · obtain ⟨f1, f2, ws, f3⟩ := r.ofr j q z
      exact ⟨f1, f2, ws, by rw [upd_ne (nq j q z)]; exact f3⟩
/-- one's own list is changed -/
theorem RelS.wr (r : RelS K L hd0 H0 pa0 σ H env pl pa ow) {i : Nat} {l l' : List D} {p : Addr} {vs' : List V} (e : env[i]? = some (.own l)) (ep : ow i = some p) (h : Rps K (vw H (hdF hd0 pa ow)) vs' l') :
    RelS K L hd0 H0 pa0 σ (upd H p (.lst vs')) (env.set i (.own l')) pl pa ow := by
  obtain ⟨f1, f2, ws, f3⟩ := r.ofr i p ep
  have hv : vw (upd H p (.lst vs')) (hdF hd0 pa ow) = vw H (hdF hd0 pa ow) := vw_upd (.inr (.inr ⟨i, ep⟩))
  refine ⟨r.len, r.al0, r.sub0, ⟨fun b o n h => ?_, r.grow.same⟩, r.sta.upd f2, fun j l2 e2 => ?_, fun j d' e2 => ?_, fun j e2 => ?_, r.inj, fun j q e2 => ?_⟩
  · obtain ⟨g1, g2⟩ := r.grow.keep b o n h
    exact ⟨g1, by rw [upd_ne (ne_of_none h f1)]; exact g2⟩
  · rw [hv]
    rcases env_get_set e2 with ⟨z1, z⟩ | ⟨n, e2⟩
    · subst z1
      cases z
      obtain ⟨p', vs, g1, g2, g3, rv⟩ := r.own j l e
      rw [ep] at g1
      cases g1
      exact ⟨p, vs', ep, g2, upd_same, h⟩
    · obtain ⟨q, vs, g1, g2, g3, rv⟩ := r.own j l2 e2
      have nq : q ≠ p := fun z => n (r.inj j i p (by rw [← z]; exact g1) ep)
      exact ⟨q, vs, g1, g2, by rw [upd_ne nq]; exact g3, rv⟩
  · rw [hv]
    rcases env_get_set e2 with ⟨_, z⟩ | ⟨n, e2⟩
    · cases z
    · exact r.val j d' e2
  · rcases env_get_set e2 with ⟨_, z⟩ | ⟨n, e2⟩
    · cases z
    · exact r.pol j e2
  · by_cases z : q = p
    · subst z
      exact ⟨f1, f2, vs', upd_same⟩
    · obtain ⟨g1, g2, us, g3⟩ := r.ofr j q e2
      exact ⟨g1, g2, us, by rw [upd_ne z]; exact g3⟩
end
end Pu
set_option Elab.async false
set_option linter.all false
set_option maxRecDepth 100000
set_option maxHeartbeats 1000000
namespace Pu
open PySem PySem.Spec PyProof.Rows L2

/-! ### what is wanted of statements -/
def EndS (K : PySem.W.Frag) (L : Nat) (hd0 : Addr → Prop) (H0 : Hp) (pa0 : List Addr) (fl : Fl) (env : Env) (pl : Pool) (D : Ends) : Prop := match fl with
  | .nx => ∀ σ' H' pa' ow', RelS K L hd0 H0 pa0 σ' H' env pl pa' ow' → D.nx σ' H'
  | .bk => ∀ σ' H' pa' ow', RelS K L hd0 H0 pa0 σ' H' env pl pa' ow' → D.bk σ' H'
  | .ct => ∀ σ' H' pa' ow', RelS K L hd0 H0 pa0 σ' H' env pl pa' ow' → D.ct σ' H'
  | .rt d => ∀ v H' pa', Sta H' pa' pl → Grow pa0 H0 pa' H' → Rp K (vw H' (un hd0 pa')) v d → D.rt v H'
def RS (K : PySem.W.Frag) (L n : Nat) (s : St) : TS := fun D σ H => ∃ hd0 H0 pa0 pa ow env pl fl env' pl', RelS K L hd0 H0 pa0 σ H env pl pa ow ∧ evS n s env pl = some (fl, env', pl') ∧ EndS K L hd0 H0 pa0 fl env' pl' D
def RSs (K : PySem.W.Frag) (L n : Nat) (s : Sts) : TS := fun D σ H => ∃ hd0 H0 pa0 pa ow env pl fl env' pl', RelS K L hd0 H0 pa0 σ H env pl pa ow ∧ evSs n s env pl = some (fl, env', pl') ∧ EndS K L hd0 H0 pa0 fl env' pl' D
structure CxS (k : Nat) (X : Cx) : Prop extends Cxt k X where
  fn : ∀ x, X.fn x = true
  kind : X.env.scope.kind = .function
  own : PassesOwn (model X.prog X.w) X.A X.env X.xe
section
variable {K : PySem.W.Frag} {L n : Nat} {hd0 : Addr → Prop} {H0 H H' : Hp} {pa0 pa pa' : List Addr} {σ : L2.St} {env : Env} {pl pl' : Pool} {ow : Nat → Option Addr} {v : V} {d : D}
theorem RD.toF {ex : Ex} {Q : VK} (h : RD K ex σ H Q) : RDf K ex σ H Q := by
  obtain ⟨hd, pa, pl, env, d, pl', A, e1, q⟩ := h
  refine ⟨hd, pa, pl, env, d, pl', A, e1, fun v H1 H' pa' s g A1 r => ?_⟩
  obtain ⟨f1, f2, f3⟩ := A1.fin r
  exact q v H' pa' f1 (g.trans f2) f3
/-- a value that is kept under a name -/
theorem asg_read {i : Nat} {e : Ex} {D : Ends} (hi : i < L) (h : RS K L n (.asg false i e) D σ H) : RD K e σ H fun v H1 => D.nx (σ.set i (some v)) H1 := by
  obtain ⟨hd0, H0, pa0, pa, ow, env, pl, fl, env', pl', r, e1, en⟩ := h
  rw [evS] at e1
  obtain ⟨⟨d, pl1⟩, ee, e1⟩ := Option.bind_eq_some_iff.mp e1
  rw [if_neg Bool.false_ne_true] at e1
  cases e1
  refine RD.mk (r.at_ (S := varsE e)) (fun _ h => h) ee fun v H1 pa1 A1 g1 rv => ?_
  have r1 := r.next A1.sta g1
  exact en _ _ _ _ ((r1.stl (noL d) (varsE e)).setVal hi (Rp.settled r1 (noL d) id rv))
theorem asg_readF {i : Nat} {e : Ex} {D : Ends} (hi : i < L) (h : RS K L n (.asg true i e) D σ H) : RDf K e σ H fun v H1 => D.nx (σ.set i (some v)) H1 := by
  obtain ⟨hd0, H0, pa0, pa, ow, env, pl, fl, env', pl', r, e1, en⟩ := h
  rw [evS] at e1
  obtain ⟨⟨d, pl1⟩, ee, e1⟩ := Option.bind_eq_some_iff.mp e1
  rw [if_pos rfl] at e1
  cases d with
  | lst l =>
    cases e1
    refine ⟨_, pa, pl, env, _, pl1, r.at_ (S := varsE e), ee, fun v H1 H' pa' s g A1 hr => ?_⟩
    have r1 := r.next s g
    rcases hr with ⟨_, h2, _⟩ | ⟨p, vs, ds, h1, rfl, h3, rfl, h5⟩ | ⟨p, vs, ds, h1, _⟩
    · exact absurd rfl (h2 rfl l)
    · cases h1
      exact en _ _ _ _ ((r1.stl (noLs l) (varsE e)).setOwn hi h3 (Rps.settled r1 (noLs l) id h5))
    · cases h1
  | _ => cases e1
theorem names_read {Q : L2.St → Hp → Prop} : ∀ {is : List Nat} {ds : List D} {vs : List V} {σ : L2.St} {env : Env} {ow : Nat → Option Addr}, RelS K L hd0 H0 pa0 σ H env pl pa ow → (∀ i ∈ is, i < L) → ds.length = is.length → Rps K (vw H (hdF hd0 pa ow)) vs ds →
    (∀ σ' ow', RelS K L hd0 H0 pa0 σ' H (setAll is ds env) pl pa ow' → Q σ' H) → gNames is vs σ H Q
  | [], [], vs, σ, env, ow, r, _, _, rv, q => ⟨rv.inv_nil, q σ ow r⟩
  | [], _ :: _, _, _, _, _, _, _, hl, _, _ => by simp at hl
  | _ :: _, [], _, _, _, _, _, _, hl, _, _ => by simp at hl
  | i :: is, d :: ds, vs, σ, env, ow, r, hi, hl, rv, q => by
    obtain ⟨v, ws, rfl, h1, h2⟩ := rv.inv_cons
    have le : Le (vw H (hdF hd0 pa ow)) (vw H (hdF hd0 pa (owSet ow i none))) := vw_anti fun b h => h.imp id (Or.imp id fun ⟨j, z⟩ => ⟨j, by
      unfold owSet at z
      split at z
      · cases z
      · exact z⟩)
    exact ⟨v, ws, rfl, names_read (r.setVal (hi i List.mem_cons_self) h1) (fun j hj => hi j (List.mem_cons_of_mem _ hj)) (by simpa using hl) (h2.le le) q⟩
theorem unp_read {is : List Nat} {e : Ex} {D : Ends} (hi : ∀ i ∈ is, i < L) (h : RS K L n (.unp is e) D σ H) : RD K e σ H fun v H1 => gTup K is.length (gNames is) v σ H1 D.nx := by
  obtain ⟨hd0, H0, pa0, pa, ow, env, pl, fl, env', pl', r, e1, en⟩ := h
  rw [evS] at e1
  obtain ⟨⟨d, pl1⟩, ee, e1⟩ := Option.bind_eq_some_iff.mp e1
  cases d with
  | tup ds =>
    simp only at e1
    split at e1
    · cases e1
      refine RD.mk (r.at_ (S := varsE e)) (fun _ h => h) ee fun v H1 pa1 A1 g1 rv => ?_
      have r1 := r.next A1.sta g1
      obtain ⟨a, xs, rfl, hs, hr⟩ := rv.tup
      refine ⟨a, xs, rfl, SqT.le vw_le hs, by rw [hr.length]; assumption, ?_⟩
      exact names_read (r1.stl (noLs ds) (varsE e)) hi (by assumption) (Rps.settled r1 (noLs ds) id hr) fun σ' ow' r' => en _ _ _ _ r'
    · cases e1
  | _ => cases e1
theorem par_read {is : List Nat} {es : Exs} {D : Ends} (hi : ∀ i ∈ is, i < L) (h : RS K L n (.par is es) D σ H) : RA K es σ H fun vs H1 => vs.length = is.length ∧ (∀ H2 : Hp, (∀ b o, H1 b = some o → H2 b = some o) → gNames is vs σ H2 D.nx) := by
  obtain ⟨hd0, H0, pa0, pa, ow, env, pl, fl, env', pl', r, e1, en⟩ := h
  rw [evS] at e1
  obtain ⟨⟨ds, pl1⟩, ee, e1⟩ := Option.bind_eq_some_iff.mp e1
  simp only at e1
  split at e1
  · rename_i hl
    cases e1
    refine RA.mk (r.at_ (S := varsEs es)) (fun _ h => h) ee fun vs H1 pa1 A1 g1 rv => ⟨by rw [rv.length]; exact hl, fun H2 hle => ?_⟩
    have r1 := r.next A1.sta g1
    have rs := Rps.settled r1 (noLs ds) id rv
    have s2 : Sta H2 pa1 pl' := by
      have h := A1.sta
      cases pl' with
      | none => exact h
      | some ps =>
        obtain ⟨p, r, a, e, h0, h1, h2, h3⟩ := h
        exact ⟨p, r, a, e, h0, hle _ _ h1, hle _ _ h2, hle _ _ h3⟩
    have g2 : Grow pa1 H1 pa1 H2 := ⟨fun b o n h => ⟨n, hle b o h⟩, fun _ => rfl⟩
    have r2 := (r1.stl (noLs ds) (varsEs es)).next s2 g2
    exact names_read r2 hi hl (rs.le fun b o h => vw_of (vw_some h).1 (hle _ _ (vw_some h).2)) fun σ' ow' r' => en _ _ _ _ r'
  · cases e1
theorem ownAt_some {env : Env} {i : Nat} {l : List D} (h : ownAt env i = some l) : env[i]? = some (.own l) := by
  unfold ownAt at h
  split at h
  · cases h; assumption
  · cases h
theorem own_settle {b : Bool} {S : List Nat} {env : Env} {i : Nat} {l : List D} (h : (settle b S env)[i]? = some (.own l)) : env[i]? = some (.own l) := by
  cases b with
  | true => exact h
  | false =>
    have h : (frz S 0 env)[i]? = some (.own l) := h
    rw [frz_get] at h
    obtain ⟨s, e1, e2⟩ := Option.map_eq_some_iff.mp h
    rw [e1]
    split at e2
    · cases s <;> cases e2
    · rw [e2]
theorem app_read {i : Nat} {e : Ex} {D : Ends} (h : RS K L n (.app i e) D σ H) : tDrop (tBM K "list" rAppend (tVar i) (tCons (RD K e) tNil)) D σ H := by
  obtain ⟨hd0, H0, pa0, pa, ow, env, pl, fl, env', pl', r, e1, en⟩ := h
  rw [evS] at e1
  obtain ⟨⟨d, pl1⟩, ee, e1⟩ := Option.bind_eq_some_iff.mp e1
  obtain ⟨l, eo, e1⟩ := Option.bind_eq_some_iff.mp e1
  obtain ⟨hz, e1⟩ := gd_some e1
  cases e1
  have eo := ownAt_some eo
  obtain ⟨p, vs, o1, o2, o3, o4⟩ := r.own i l (own_settle eo)
  refine ⟨_, o2, .inl ⟨rfl, vs, SqL.of o3⟩, ?_⟩
  refine RD.mk (r.at_ (S := varsE e)) (fun _ h => h) ee fun v H1 pa1 A1 g1 rv => ?_
  have r1 := r.next A1.sta g1
  have r2 := r1.stl (noL d) (varsE e)
  have rs := Rp.settled r1 (noL d) id rv
  obtain ⟨p', vs', q1, q2, q3, q4⟩ := r2.own i l eo
  rw [o2] at q2
  cases q2
  exact ⟨p, vs', v, rfl, rfl, q3, by rw [q4.length]; exact hz, en _ _ _ _ (r2.wr eo q1 (q4.append (.cons rs .nil)))⟩
theorem ext_read {i : Nat} {e : Ex} {D : Ends} (h : RS K L n (.ext i e) D σ H) : tDrop (tBM K "list" rExtend (tVar i) (tCons (RD K e) tNil)) D σ H := by
  obtain ⟨hd0, H0, pa0, pa, ow, env, pl, fl, env', pl', r, e1, en⟩ := h
  rw [evS] at e1
  obtain ⟨⟨d, pl1⟩, ee, e1⟩ := Option.bind_eq_some_iff.mp e1
  cases d with
  | lst ds =>
    obtain ⟨l, eo, e1⟩ := Option.bind_eq_some_iff.mp e1
    obtain ⟨hz, e1⟩ := gd_some e1
    cases e1
    have eo := ownAt_some eo
    obtain ⟨p, vs, o1, o2, o3, o4⟩ := r.own i l (own_settle eo)
    refine ⟨_, o2, .inl ⟨rfl, vs, SqL.of o3⟩, ?_⟩
    refine RD.mk (r.at_ (S := varsE e)) (fun _ h => h) ee fun v H1 pa1 A1 g1 rv => ?_
    have r1 := r.next A1.sta g1
    have r2 := r1.stl (noLs ds) (varsE e)
    obtain ⟨b, zs, rfl, hb, rz⟩ := rv.lst
    have rs := Rps.settled r1 (noLs ds) id rz
    obtain ⟨p', vs', q1, q2, q3, q4⟩ := r2.own i l eo
    rw [o2] at q2
    cases q2
    exact ⟨p, b, vs', zs, rfl, rfl, q3, vw_le _ _ hb, by rw [q4.length, rz.length]; exact hz, en _ _ _ _ (r2.wr eo q1 (q4.append rs))⟩
  | _ => cases e1
theorem set_read {i : Nat} {k e : Ex} {D : Ends} (h : RS K L n (.setI i k e) D σ H) : RD K e σ H fun x H1 => gSub (tVar i) (RD K k) rSetL x σ H1 D.nx := by
  obtain ⟨hd0, H0, pa0, pa, ow, env, pl, fl, env', pl', r, e1, en⟩ := h
  rw [evS] at e1
  obtain ⟨⟨d, pl1⟩, ee, e1⟩ := Option.bind_eq_some_iff.mp e1
  obtain ⟨⟨dk, pl2⟩, ek, e1⟩ := Option.bind_eq_some_iff.mp e1
  cases dk with
  | int j =>
    obtain ⟨l, eo, e1⟩ := Option.bind_eq_some_iff.mp e1
    obtain ⟨m, em, e1⟩ := map1 e1
    cases e1
    have eo := ownAt_some eo
    refine RD.mk (r.at_ (S := varsE e)) (fun _ h => h) ee fun v H1 pa1 A1 g1 rv => ?_
    have r1 := r.next A1.sta g1
    have r2 := r1.stl (noL d) (varsE e)
    have rs := Rp.settled r1 (noL d) id rv
    obtain ⟨p, vs, q1, q2, q3, q4⟩ := r2.own i l eo
    refine ⟨_, q2, ?_⟩
    refine RD.mk (r2.at_ (S := varsE k)) (fun _ h => h) ek fun x H2 pa2 A2 g2 rx => ?_
    cases rx.int
    have r3 := r2.next A2.sta g2
    obtain ⟨p', vs', w1, w2, w3, w4⟩ := r3.own i l eo
    rw [q2] at w2
    cases w2
    have rs' := rs.le (F' := vw H2 (hdF hd0 pa2 _)) fun b o e => by
      obtain ⟨n, q⟩ := vw_some e
      obtain ⟨n', q'⟩ := g2.keep b o (fun z => n (.inr (.inl z))) q
      exact vw_of (fun z => z.elim (fun z => n (.inl z)) (fun z => z.elim n' fun z => n (.inr (.inr z)))) q'
    exact ⟨p, vs', j, m, rfl, rfl, w3, by rw [w4.length]; exact em, en _ _ _ _ (r3.wr eo w1 (w4.set m rs'))⟩
  | _ => cases e1
theorem ret_read {e : Ex} {D : Ends} (h : RS K L n (.ret e) D σ H) : RD K e σ H D.rt := by
  obtain ⟨hd0, H0, pa0, pa, ow, env, pl, fl, env', pl', r, e1, en⟩ := h
  rw [evS] at e1
  obtain ⟨⟨d, pl1⟩, ee, e1⟩ := map1 e1
  cases e1
  refine RD.mk (r.at_ (S := varsE e)) (fun _ h => h) ee fun v H1 pa1 A1 g1 rv => ?_
  exact en v H1 pa1 A1.sta (r.grow.trans g1) (rv.le (vw_anti fun b z => z.elim (fun z => .inl (.inl z)) .inr))
theorem pop_read {i : Nat} {D : Ends} (h : RS K L n (.pop i) D σ H) : tDrop (tBM0 K "list" rPop (tVar i)) D σ H := by
  obtain ⟨hd0, H0, pa0, pa, ow, env, pl, fl, env', pl', r, e1, en⟩ := h
  rw [evS] at e1
  obtain ⟨l, eo, e1⟩ := Option.bind_eq_some_iff.mp e1
  split at e1
  · cases e1
  · rename_i hne
    cases e1
    have eo := ownAt_some eo
    obtain ⟨p, vs, o1, o2, o3, o4⟩ := r.own i l eo
    have hlen : vs.length - 1 < vs.length := by
      have := o4.length
      cases l with
      | nil => exact absurd rfl hne
      | cons a b => simp at this; omega
    refine ⟨_, o2, .inl ⟨rfl, vs, SqL.of o3⟩, p, vs, vs[vs.length - 1], rfl, rfl, o3, List.getElem?_eq_getElem hlen, ?_⟩
    refine en _ _ _ _ (r.wr eo o1 ?_)
    rw [List.dropLast_eq_take, List.dropLast_eq_take, o4.length]
    exact o4.take _
end
end Pu
set_option Elab.async false
set_option linter.all false
set_option maxRecDepth 100000
set_option maxHeartbeats 1000000
namespace Pu
open PySem PySem.Spec PyProof.Rows L2

/-! ### op= -/
def rAug (op : Operator) : TIp := fun x y H Q =>
  (∃ i j d, x = .int i ∧ y = .int j ∧ opBin op (.int i) (.int j) = some d ∧ ∀ v, (∀ K F, Rp K F v d) → Q v H) ∨
  (∃ i j d, x = .str (mkS i) ∧ y = .str (mkS j) ∧ opBin op (.str i) (.str j) = some d ∧ ∀ v, (∀ K F, Rp K F v d) → Q v H)
theorem pip_aug {X : Cx} (op : Operator) (hp : op ≠ .Pow) : PIp X op (rAug op) := by
  intro pins s σ H x y v u Q I rx ry h
  rcases h with ⟨i, j, d, rfl, rfl, e, q⟩ | ⟨i, j, d, rfl, rfl, e, q⟩
  · cases op <;> first | (cases e; done) | (exact absurd rfl hp) | skip
    · cases Option.some.inj e
      exact iop_add pins s σ H _ _ v u Q I rx ry ⟨_, _, rfl, rfl, q _ fun _ _ => .mint _⟩
    · cases Option.some.inj e
      exact iop_sub pins s σ H _ _ v u Q I rx ry ⟨_, _, rfl, rfl, q _ fun _ _ => .mint _⟩
    · obtain ⟨hz, rfl⟩ := gd_some e
      exact iop_mul pins s σ H _ _ v u Q I rx ry ⟨_, _, rfl, rfl, hz, q _ fun _ _ => .mint _⟩
    · obtain ⟨hz, rfl⟩ := gd_some e
      exact iop_mod pins s σ H _ _ v u Q I rx ry ⟨_, _, rfl, rfl, hz, q _ fun _ _ => .mint _⟩
    · obtain ⟨hz, rfl⟩ := gd_some e
      exact iop_fdiv pins s σ H _ _ v u Q I rx ry ⟨_, _, rfl, rfl, hz, q _ fun _ _ => .mint _⟩
  · cases op <;> first | (cases e; done) | (exact absurd rfl hp) | skip
    obtain ⟨hz, rfl⟩ := gd_some e
    refine iop_add_str pins s σ H _ _ v u Q I rx ry ⟨_, _, rfl, rfl, by rw [mkS_len, mkS_len]; exact hz, ?_⟩
    rw [mkS_app]
    exact q _ fun _ _ => .mstr _
section
variable {K : PySem.W.Frag} {L n : Nat} {hd0 : Addr → Prop} {H0 H H' : Hp} {pa0 pa pa' : List Addr} {σ : L2.St} {env : Env} {pl pl' : Pool} {ow : Nat → Option Addr} {v : V} {d : D}
theorem aug_read {i : Nat} {op : Operator} {e : Ex} {D : Ends} (hi : i < L) (h : RS K L n (.aug i op e) D σ H) : tAug i (RD K e) (rAug op) D σ H := by
  obtain ⟨hd0, H0, pa0, pa, ow, env, pl, fl, env', pl', r, e1, en⟩ := h
  rw [evS] at e1
  split at e1
  · rename_i a ea
    obtain ⟨⟨d, pl1⟩, ee, e1⟩ := Option.bind_eq_some_iff.mp e1
    obtain ⟨v, hv, rv⟩ := r.val i a ea
    refine ⟨v, hv, RD.mk (r.at_ (S := varsE e)) (fun _ h => h) ee fun y H1 pa1 A1 g1 ry => ?_⟩
    have r1 := r.next A1.sta g1
    have fin : ∀ {d' : Pu.D} {z : V}, (∀ K F, Rp K F z d') → RelS K L hd0 H0 pa0 (σ.set i (some z)) H1 (env.set i (.val d')) pl1 pa1 (owSet ow i none) := fun hz => r1.setVal hi (hz _ _)
    cases a <;> cases d <;> first | (cases e1; done) | skip
    · obtain ⟨d', eo, e1⟩ := map1 e1
      cases e1
      cases rv.int
      cases ry.int
      exact .inl ⟨_, _, _, rfl, rfl, eo, fun z hz => en _ _ _ _ (fin hz)⟩
    · obtain ⟨d', eo, e1⟩ := map1 e1
      cases e1
      cases rv.str
      cases ry.str
      exact .inr ⟨_, _, _, rfl, rfl, eo, fun z hz => en _ _ _ _ (fin hz)⟩
  · cases e1
theorem popT0_read {i j : Nat} {D : Ends} (hj : j < L) (h : RS K L n (.popT j i .no) D σ H) : tAsg (tBM0 K "list" rPop (tVar i)) (gName j) D σ H := by
  obtain ⟨hd0, H0, pa0, pa, ow, env, pl, fl, env', pl', r, e1, en⟩ := h
  rw [evS, evO] at e1
  obtain ⟨⟨_, _⟩, hz, e1⟩ := Option.bind_eq_some_iff.mp e1
  cases hz
  obtain ⟨l, eo, e1⟩ := Option.bind_eq_some_iff.mp e1
  obtain ⟨d, ed, e1⟩ := map1 e1
  cases e1
  have eo := ownAt_some eo
  obtain ⟨p, vs, o1, o2, o3, o4⟩ := r.own i l eo
  obtain ⟨x, hx, rx⟩ := o4.get ed
  refine ⟨_, o2, .inl ⟨rfl, vs, SqL.of o3⟩, p, vs, x, rfl, rfl, o3, by rw [o4.length]; exact hx, ?_⟩
  have h2 : Rps K (vw H (hdF hd0 pa ow)) vs.dropLast l.dropLast := by
    rw [List.dropLast_eq_take, List.dropLast_eq_take, o4.length]
    exact o4.take _
  have r2 := r.wr eo o1 h2
  exact en _ _ _ _ (r2.setVal hj (by rw [vw_upd (.inr (.inr ⟨i, o1⟩))]; exact rx))
theorem popT1_read {i j : Nat} {k : Ex} {D : Ends} (hj : j < L) (h : RS K L n (.popT j i (.yes k)) D σ H) : tAsg (tBM K "list" rPopAt (tVar i) (tCons (RD K k) tNil)) (gName j) D σ H := by
  obtain ⟨hd0, H0, pa0, pa, ow, env, pl, fl, env', pl', r, e1, en⟩ := h
  rw [evS, evO] at e1
  obtain ⟨⟨m, pl1⟩, em, e1⟩ := Option.bind_eq_some_iff.mp e1
  obtain ⟨⟨dk, pl2⟩, ek, em⟩ := Option.bind_eq_some_iff.mp em
  obtain ⟨l, eo, e1⟩ := Option.bind_eq_some_iff.mp e1
  have eo := ownAt_some eo
  obtain ⟨p, vs, o1, o2, o3, o4⟩ := r.own i l eo
  refine ⟨_, o2, .inl ⟨rfl, vs, SqL.of o3⟩, ?_⟩
  refine RD.mk (r.at_ (S := varsE k)) (fun _ h => h) ek fun y H1 pa1 A1 g1 ry => ?_
  have r1 := r.next A1.sta g1
  cases dk with
  | int t =>
    cases em
    cases ry.int
    simp only at e1
    obtain ⟨_, hg, e1⟩ := Option.bind_eq_some_iff.mp e1
    obtain ⟨⟨g1', g2'⟩, _⟩ := gd_some hg
    obtain ⟨q, eq, e1⟩ := Option.bind_eq_some_iff.mp e1
    obtain ⟨d, ed, e1⟩ := map1 e1
    cases e1
    obtain ⟨p', vs', w1, w2, w3, w4⟩ := r1.own i l eo
    rw [o2] at w2
    cases w2
    obtain ⟨x, hx, rx⟩ := w4.get ed
    obtain ⟨h1, h2, h3, h4⟩ := ixN_seq eq
    refine ⟨p, vs', t, q, x, rfl, rfl, w3, by omega, by omega, by rw [w4.length]; assumption, hx, ?_⟩
    have he : Rps K (vw H1 (hdF hd0 pa1 ow)) (vs'.eraseIdx q) (l.eraseIdx q) := by
      rw [List.eraseIdx_eq_take_drop_succ, List.eraseIdx_eq_take_drop_succ]
      exact (w4.take _).append (w4.drop _)
    have r2 := r1.wr eo w1 he
    exact en _ _ _ _ (r2.setVal hj (by rw [vw_upd (.inr (.inr ⟨i, w1⟩))]; exact rx))
  | _ => cases em
theorem evT_read {c : Ex} {b : Bool} {pl1 : Pool} {Q : Bool → Hp → Prop} (r : RelS K L hd0 H0 pa0 σ H env pl pa ow) (e : evT c env pl = some (b, pl1))
    (h : ∀ H1 pa1, RelS K L hd0 H0 pa0 σ H1 env pl1 pa1 ow → Q b H1) : RT K c σ H Q := by
  unfold evT at e
  obtain ⟨⟨d, pl2⟩, ee, e⟩ := Option.bind_eq_some_iff.mp e
  obtain ⟨b', et, e⟩ := map1 e
  cases e
  exact RT.mk (r.at_ (S := varsE c)) (fun _ h => h) ee et fun H1 pa1 A1 g1 => h H1 pa1 (r.next A1.sta g1)
theorem ite_read {c : Ex} {a b : Sts} {D : Ends} (h : RS K L n (.ite c a b) D σ H) : tIfS (RT K c) (RSs K L n a) (RSs K L n b) D σ H := by
  obtain ⟨hd0, H0, pa0, pa, ow, env, pl, fl, env', pl', r, e1, en⟩ := h
  rw [evS] at e1
  obtain ⟨⟨t, pl1⟩, ee, e1⟩ := Option.bind_eq_some_iff.mp e1
  refine evT_read r ee fun H1 pa1 r1 => ?_
  cases t with
  | true => exact ⟨hd0, H0, pa0, pa1, ow, env, pl1, fl, env', pl', r1, e1, en⟩
  | false => exact ⟨hd0, H0, pa0, pa1, ow, env, pl1, fl, env', pl', r1, e1, en⟩
theorem whl_read {c : Ex} {b : Sts} {D : Ends} (h : RS K L n (.whl c b) D σ H) : tWhile (RT K c) (RSs K L n b) D σ H := by
  obtain ⟨hd0, H0, pa0, pa, ow, env, pl, fl, env', pl', r, e1, en⟩ := h
  rw [evS] at e1
  refine ⟨fun m σ H => ∃ env pl pa ow, RelS K L hd0 H0 pa0 σ H env pl pa ow ∧ whGo (evT c) (evSs n b) m env pl = some (fl, env', pl'), ⟨n, env, pl, pa, ow, r, e1⟩, ?_⟩
  clear r e1
  rintro m σ H ⟨env, pl, pa, ow, r, e1⟩
  cases m with
  | zero => rw [whGo] at e1; cases e1
  | succ m =>
    rw [whGo] at e1
    obtain ⟨⟨t, pl1⟩, ee, e1⟩ := Option.bind_eq_some_iff.mp e1
    refine evT_read r ee fun H1 pa1 r1 => ?_
    cases t with
    | false =>
      rw [if_neg Bool.false_ne_true] at e1 ⊢
      cases e1
      exact en _ _ _ _ r1
    | true =>
      rw [if_pos rfl] at e1 ⊢
      obtain ⟨⟨f, env2, pl2⟩, eb, e1⟩ := Option.bind_eq_some_iff.mp e1
      cases f with
      | nx => exact ⟨fun σ' H' => ∃ pa' ow', RelS K L hd0 H0 pa0 σ' H' env2 pl2 pa' ow', fun σ' H' ⟨pa', ow', r'⟩ => ⟨m, Nat.lt_succ_self m, env2, pl2, pa', ow', r', e1⟩,
          hd0, H0, pa0, pa1, ow, env, pl1, .nx, env2, pl2, r1, eb, fun σ' H' pa' ow' r' => ⟨pa', ow', r'⟩⟩
      | ct => exact ⟨fun σ' H' => ∃ pa' ow', RelS K L hd0 H0 pa0 σ' H' env2 pl2 pa' ow', fun σ' H' ⟨pa', ow', r'⟩ => ⟨m, Nat.lt_succ_self m, env2, pl2, pa', ow', r', e1⟩,
          hd0, H0, pa0, pa1, ow, env, pl1, .ct, env2, pl2, r1, eb, fun σ' H' pa' ow' r' => ⟨pa', ow', r'⟩⟩
      | bk =>
        cases e1
        exact ⟨fun _ _ => False, fun _ _ z => z.elim, hd0, H0, pa0, pa1, ow, env, pl1, .bk, _, _, r1, eb, en⟩
      | rt d =>
        cases e1
        exact ⟨fun _ _ => False, fun _ _ z => z.elim, hd0, H0, pa0, pa1, ow, env, pl1, .rt d, _, _, r1, eb, en⟩

/-! ### for -/
open Classical in
noncomputable def orH (F H0 : Hp) : Hp := fun b => if F b = none then H0 b else F b
theorem orH_none {F H0 : Hp} {b : Addr} (h : orH F H0 b = none) : F b = none ∧ H0 b = none := by
  unfold orH at h
  split at h
  · exact ⟨by assumption, h⟩
  · contradiction
theorem orH_some {F H0 : Hp} {b : Addr} {o : HO} (h : orH F H0 b = some o) : F b = some o ∨ H0 b = some o := by
  unfold orH at h
  split at h
  · exact .inr h
  · exact .inl h
theorem orH_F {F H0 : Hp} {b : Addr} {o : HO} (h : F b = some o) : orH F H0 b = some o := by
  unfold orH
  rw [if_neg (by rw [h]; simp)]
  exact h
/-- what is walked is taken for there from the start -/
theorem RelS.enter (r : RelS K L hd0 H0 pa0 σ H env pl pa ow) {F : Hp} (l : Le F (vw H (hdF hd0 pa ow))) : RelS K L hd0 (orH F H0) pa0 σ H env pl pa ow := by
  refine ⟨r.len, fun b hb z => r.al0 b hb (orH_none z).2, r.sub0, ⟨fun b o n h => ?_, r.grow.same⟩, r.sta, r.own, r.val, r.pol, r.inj, fun i p e => ?_⟩
  · rcases orH_some h with h | h
    · obtain ⟨n1, h1⟩ := vw_some (l _ _ h)
      exact ⟨fun z => n1 (.inr (.inl z)), h1⟩
    · exact r.grow.keep b o n h
  · obtain ⟨f1, f2, f3⟩ := r.ofr i p e
    refine ⟨?_, f2, f3⟩
    cases q : orH F H0 p with
    | none => rfl
    | some o =>
      rcases orH_some q with h | h
      · exact absurd (.inr (.inr ⟨i, e⟩)) (vw_some (l _ _ h)).1
      · rw [f1] at h; cases h
theorem RelS.leave {F : Hp} (r : RelS K L hd0 (orH F H0) pa0 σ H env pl pa ow) (ha : ∀ b, hd0 b → H0 b ≠ none) (hn : ∀ b o, F b = some o → ¬ hd0 b) (hF : ∀ b o u, F b = some o → H0 b = some u → u = o) : RelS K L hd0 H0 pa0 σ H env pl pa ow := by
  refine ⟨r.len, ha, r.sub0, ⟨fun b o n h => ?_, r.grow.same⟩, r.sta, r.own, r.val, r.pol, r.inj, fun i p e => ?_⟩
  · refine r.grow.keep b o n ?_
    cases q : F b with
    | none => unfold orH; rw [if_pos q]; exact h
    | some u => cases hF b u o q h; exact orH_F q
  · obtain ⟨f1, f2, f3⟩ := r.ofr i p e
    exact ⟨(orH_none f1).2, f2, f3⟩
theorem Grow.leave {F : Hp} {H' : Hp} (g : Grow pa0 (orH F H0) pa' H') (hF : ∀ b o u, F b = some o → H0 b = some u → u = o) : Grow pa0 H0 pa' H' := by
  refine ⟨fun b o n h => ?_, g.same⟩
  refine g.keep b o n ?_
  cases q : F b with
  | none => unfold orH; rw [if_pos q]; exact h
  | some u => cases hF b u o q h; exact orH_F q
theorem RelS.leF {F : Hp} (r : RelS K L hd0 (orH F H0) pa0 σ H env pl pa ow) (hn : ∀ b o, F b = some o → ¬ hd0 b) : Le F (vw H (hdF hd0 pa ow)) := fun b o h => by
  have n0 : b ∉ pa0 := fun z => hn b o h (r.sub0 b z)
  obtain ⟨n1, h1⟩ := r.grow.keep b o n0 (orH_F h)
  refine vw_of (fun z => ?_) h1
  rcases z with z | z | ⟨i, z⟩
  · exact hn b o h z
  · exact n1 z
  · obtain ⟨f1, _⟩ := r.ofr i b z
    rw [(orH_none f1).1] at h
    cases h
theorem turns {J : It} {g : TG} {tb : TS} {turn : D → Env → Pool → RsS} {ds : List D} {F : Hp} {D : Ends} {fl : Fl} {env' : Env} {pl' : Pool}
    (hg : ∀ {H0 σ H env pl pa ow v d fl env' pl' D}, RelS K L hd0 H0 pa0 σ H env pl pa ow → Rp K (vw H (hdF hd0 pa ow)) v d → turn d env pl = some (fl, env', pl') → EndS K L hd0 H0 pa0 fl env' pl' D → g v σ H fun σ2 H2 => tb D σ2 H2)
    (r : RelS K L hd0 H0 pa0 σ H env pl pa ow) (l : Le F (vw H (hdF hd0 pa ow))) (w : Walks K J F ds) (e : forGo turn ds env pl = some (fl, env', pl')) (en : EndS K L hd0 H0 pa0 fl env' pl' D) :
    ∃ W : Nat → Nat → L2.St → Hp → Prop, (∃ m, W 0 m σ H) ∧ ∀ i m σ H, W i m σ H →
      (J.stop i H ∧ D.nx σ H) ∨ (J.go i H ∧ ∃ N : L2.St → Hp → Prop, (∀ σ' H', N σ' H' → ∃ m', m' < m ∧ W (i + 1) m' σ' H') ∧ ∀ x H', J.yld i H x H' → g x σ H' fun σ2 H2 => tb { D with nx := N, ct := N, bk := D.nx } σ2 H2) := by
  have hn : ∀ b o, F b = some o → ¬ hd0 b := fun b o h z => (vw_some (l _ _ h)).1 (.inl z)
  have hF : ∀ b o u, F b = some o → H0 b = some u → u = o := fun b o u h h' => by
    have n0 : b ∉ pa0 := fun z => hn b o h (r.sub0 b z)
    have h1 := (r.grow.keep b u n0 h').2
    rw [(vw_some (l _ _ h)).2] at h1
    exact (Option.some.inj h1).symm
  have ha := r.al0
  refine ⟨fun i m σ H => i ≤ ds.length ∧ m = ds.length - i ∧ ∃ env pl pa ow, RelS K L hd0 (orH F H0) pa0 σ H env pl pa ow ∧ forGo turn (ds.drop i) env pl = some (fl, env', pl'), ⟨_, Nat.zero_le _, rfl, env, pl, pa, ow, r.enter l, e⟩, ?_⟩
  clear e l r
  rintro i m σ H ⟨hi, rfl, env, pl, pa, ow, r, e⟩
  have lF := r.leF hn
  obtain ⟨w1, w2⟩ := w i H (lF.trans vw_le)
  by_cases hlt : i < ds.length
  · right
    have hd : ds[i]? = some ds[i] := List.getElem?_eq_getElem hlt
    obtain ⟨go, yl⟩ := w1 _ hd
    rw [List.drop_eq_getElem_cons hlt, forGo] at e
    obtain ⟨⟨f, env2, pl2⟩, eb, e⟩ := Option.bind_eq_some_iff.mp e
    refine ⟨go, ?_⟩
    have again : ∀ (e : forGo turn (ds.drop (i + 1)) env2 pl2 = some (fl, env', pl')) (σ' : L2.St) (H' : Hp), (∃ pa' ow', RelS K L hd0 (orH F H0) pa0 σ' H' env2 pl2 pa' ow') →
        ∃ m', m' < ds.length - i ∧ i + 1 ≤ ds.length ∧ m' = ds.length - (i + 1) ∧ ∃ env pl pa ow, RelS K L hd0 (orH F H0) pa0 σ' H' env pl pa ow ∧ forGo turn (ds.drop (i + 1)) env pl = some (fl, env', pl') :=
      fun e σ' H' ⟨pa', ow', r'⟩ => ⟨ds.length - (i + 1), by omega, hlt, rfl, env2, pl2, pa', ow', r', e⟩
    cases f with
    | nx =>
      refine ⟨fun σ' H' => ∃ pa' ow', RelS K L hd0 (orH F H0) pa0 σ' H' env2 pl2 pa' ow', again e, fun x H' y => ?_⟩
      obtain ⟨rfl, rx⟩ := yl x H' y
      exact hg r (rx.le lF) eb fun σ' H' pa' ow' r' => ⟨pa', ow', r'⟩
    | ct =>
      refine ⟨fun σ' H' => ∃ pa' ow', RelS K L hd0 (orH F H0) pa0 σ' H' env2 pl2 pa' ow', again e, fun x H' y => ?_⟩
      obtain ⟨rfl, rx⟩ := yl x H' y
      exact hg r (rx.le lF) eb fun σ' H' pa' ow' r' => ⟨pa', ow', r'⟩
    | bk =>
      cases e
      refine ⟨fun _ _ => False, fun _ _ z => z.elim, fun x H' y => ?_⟩
      obtain ⟨rfl, rx⟩ := yl x H' y
      exact hg r (rx.le lF) eb fun σ' H' pa' ow' r' => en σ' H' pa' ow' (r'.leave ha hn hF)
    | rt d =>
      cases e
      refine ⟨fun _ _ => False, fun _ _ z => z.elim, fun x H' y => ?_⟩
      obtain ⟨rfl, rx⟩ := yl x H' y
      exact hg r (rx.le lF) eb fun v H' pa' s g rv => en v H' pa' s (g.leave hF) rv
  · left
    have ei : i = ds.length := by omega
    rw [ei, List.drop_length, forGo] at e
    cases e
    exact ⟨w2 (by omega), en _ _ _ _ (r.leave ha hn hF)⟩
theorem frzW_read {w : Wk} {R : It → Hp → Prop} {ds : List D} {pl1 : Pool} (r : RelS K L hd0 H0 pa0 σ H env pl pa ow) (e : evW w env pl = some (ds, pl1))
    (h : ∀ J H1 pa1 ow1 F, RelS K L hd0 H0 pa0 σ H1 (frzW w env) pl1 pa1 ow1 → Le F (vw H1 (hdF hd0 pa1 ow1)) → Walks K J F ds → R J H1) : RW K w σ H R := by
  refine ⟨_, pa, pl, env, ds, pl1, r.at_ (S := varsW w), e, fun J H1 pa1 F s g l hr wk => ?_⟩
  have r1 := r.next s g
  cases w with
  | rng es =>
    refine h J H1 pa1 ow F r1 (fun b o z => ?_) wk
    rw [hr trivial b] at z
    cases z
  | ex ex =>
    refine h J H1 pa1 _ F (r1.stl false (varsE ex)) (fun b o z => ?_) wk
    obtain ⟨n, q⟩ := vw_some (l _ _ z)
    refine vw_of (fun y => ?_) q
    rcases y with y | y | ⟨j, y⟩
    · exact n (.inl (.inl y))
    · exact n (.inr y)
    · by_cases hj : j ∈ varsE ex
      · unfold owS at y
        simp [hj] at y
      · refine n (.inl (.inr (.inr ⟨j, by simpa [varsW] using hj, ?_⟩)))
        unfold owS at y
        simpa [hj] using y
theorem for_read {i : Nat} {w : Wk} {b : Sts} {D : Ends} (hi : i < L) (h : RS K L n (.for_ i w b) D σ H) : tFor (RW K w) (gName i) (RSs K L n b) D σ H := by
  obtain ⟨hd0, H0, pa0, pa, ow, env, pl, fl, env', pl', r, e1, en⟩ := h
  rw [evS] at e1
  obtain ⟨⟨ds, pl1⟩, ew, e1⟩ := Option.bind_eq_some_iff.mp e1
  refine frzW_read r ew fun J H1 pa1 ow1 F r1 l wk => turns ?_ r1 l wk e1 en
  intro H0 σ H env pl pa ow v d fl env' pl' D r rv e en
  exact ⟨hd0, H0, pa0, pa, _, _, pl, fl, env', pl', r.setVal hi rv, e, en⟩
theorem forT_read {is : List Nat} {w : Wk} {b : Sts} {D : Ends} (hi : ∀ i ∈ is, i < L) (h : RS K L n (.forT is w b) D σ H) : tFor (RW K w) (gTup K is.length (gNames is)) (RSs K L n b) D σ H := by
  obtain ⟨hd0, H0, pa0, pa, ow, env, pl, fl, env', pl', r, e1, en⟩ := h
  rw [evS] at e1
  obtain ⟨⟨ds, pl1⟩, ew, e1⟩ := Option.bind_eq_some_iff.mp e1
  refine frzW_read r ew fun J H1 pa1 ow1 F r1 l wk => turns ?_ r1 l wk e1 en
  intro H0 σ H env pl pa ow v d fl env' pl' D r rv e en
  cases d with
  | tup ds =>
    simp only at e
    split at e
    · rename_i hl
      obtain ⟨a, xs, rfl, hs, hr⟩ := rv.tup
      refine ⟨a, xs, rfl, SqT.le vw_le hs, by rw [hr.length]; exact hl, ?_⟩
      exact names_read r hi hl hr fun σ' ow' r' => ⟨hd0, H0, pa0, pa, _, _, pl, fl, env', pl', r', e, en⟩
    · cases e
  | _ => cases e
end
end Pu
set_option Elab.async false
set_option linter.all false
set_option maxRecDepth 100000
set_option maxHeartbeats 1000000
namespace Pu
open PySem PySem.Spec PyProof.Rows L2

theorem ok_loc {sc : Scope} {x : Str} (h : locB sc x = true) : Loc sc x := by
  unfold locB at h
  split at h
  · exact .inl (by assumption)
  · rename_i q
    exact .inr (by rw [q] <;> rfl)
  · cases h
theorem sF (k : Nat) (X : Cx) (e : Expr) (C : Cxt k X) : ∀ (ex : Ex), fresh ex = true → (∀ n ∈ needE ex, NeedX k X n) → okE X.N X.env.scope ex e = true → PE X e (RDf X.K ex)
  | .bin op a b, _, hn, h => by
    cases e with
    | BinOp l o r pos =>
      simp only [okE, Bool.and_eq_true, decide_eq_true_eq] at h
      obtain ⟨rfl, h1, h2⟩ := h
      have pa := sE k a X l C (fun n z => hn n (by simp [needE, z])) h1
      have pb := sE k b X r C (fun n z => hn n (by simp [needE, z])) h2
      exact f_bin pa.1 pb.1
    | _ => simp [okE] at h
  | .lst es, _, hn, h => by
    cases e with
    | List l pos =>
      rw [okE] at h
      exact f_lst (sA k es X l C (fun n z => hn n (by simpa [needE] using z)) h)
    | _ => simp [okE] at h
  | .sl a lo hi, _, hn, h => by
    cases e with
    | Subscript x y pos =>
      cases y with
      | Slice l u st p2 =>
        cases st with
        | none =>
          simp only [okE, Bool.and_eq_true] at h
          obtain ⟨h1, h2, h3⟩ := h
          have pa := sE k a X x C (fun n z => hn n (by simp [needE, z])) h1
          have pl := sO k lo X l C (fun n z => hn n (by simp [needE, z])) h2
          have pu := sO k hi X u C (fun n z => hn n (by simp [needE, z])) h3
          exact f_sl pa.1 pl pu
        | some _ => simp [okE] at h
      | _ => simp [okE] at h
    | _ => simp [okE] at h
  | .rev a, _, hn, h => by
    obtain ⟨x, j, p1, p2, p3, pos, rfl, h1⟩ := inv_rev h
    exact f_rev (sE k a X x C (fun n z => hn n (by simp [needE, z])) h1).1
  | .bi f es, _, hn, h => by
    cases e with
    | Call fn l kw pos =>
      cases fn with
      | Name x p =>
        cases kw with
        | nil =>
          simp only [okE, Bool.and_eq_true, decide_eq_true_eq] at h
          obtain ⟨⟨rfl, h1⟩, h3, h4⟩ := h
          have pa := sA k es X l C (fun n z => hn n (by simpa [needE] using z)) h4
          cases l with
          | nil => have := (ok_stars (pos := pos) (env := X.env) h4).2.2; simp at this; omega
          | cons a r =>
            have hst : starEach (a :: r) X.env = (false, eval a X.env) :: starEach r X.env := by
              cases es with
              | nil => simp [okEs] at h4
              | cons b es => rw [okEs, Bool.and_eq_true] at h4; exact ok_star h4.1 _ _
            have hpl : (backTo pos (starEach r X.env)).any (·.1) = false := by
              cases es with
              | nil => simp [okEs] at h4
              | cons b es => rw [okEs, Bool.and_eq_true] at h4; exact (ok_stars h4.2).1
            exact f_bi C h1 pa hst hpl
        | cons _ _ => simp [okE] at h
      | _ => simp [okE] at h
    | _ => simp [okE] at h
  | .lc i it cd el, _, hn, h => by
    obtain ⟨e', x, px, w, ifs, scope, pos, rfl, h1, h2, h3, h4, h5, h6⟩ := inv_lc h
    have pw := sW k it X (.Name x px) w C (fun n z => hn n (by simp [needE, z])) h3
    have pt : ∀ (s : Shared) (H : Hp) (A : Addr) (cl : List (Str × Addr)) (fp : List Addr), PTs (X.blk s H scope (compEnvC scope cl A X.env) fp) ifs (RC X.K cd) := fun s H A cl fp => by
      cases cd with
      | no =>
        cases ifs with
        | nil => exact pts_nil
        | cons _ _ => cases h4
      | yes c =>
        match ifs, h4 with
        | [f], h4 => exact pts_one (sE k c (X.blk s H scope (compEnvC scope cl A X.env) fp) f (C.blk s H scope _ fp) (fun n z => hn n (by simp [needE, needO, z])) h4).2
        | [], h4 => cases h4
        | _ :: _ :: _, h4 => cases h4
    have pe : ∀ (s : Shared) (H : Hp) (A : Addr) (cl : List (Str × Addr)) (fp : List Addr), PE (X.blk s H scope (compEnvC scope cl A X.env) fp) e' (RD X.K el) := fun s H A cl fp =>
      (sE k el _ e' (C.blk s H scope _ fp) (fun n z => hn n (by simp [needE, z])) h5).1
    exact f_lc C h1 (blkOk_by h2) pw (fun s H A cl fp => blk_target C h1 h6 s H A cl fp) pt pe (ok_fold h3)
  | .lcP t it cd el, _, hn, h => by
    obtain ⟨e', tg, w, ifs, scope, pos, rfl, h1, h2, h3, h4, h5⟩ := inv_lcP h
    obtain ⟨lt, ho⟩ := okT_lt h1
    have pw := sW k it X tg w C (fun n z => hn n (by simp [needE, z])) h3
    have pt : ∀ (s : Shared) (H : Hp) (A : Addr) (cl : List (Str × Addr)) (fp : List Addr), PTs (X.blk s H scope (compEnvC scope cl A X.env) fp) ifs (RC X.K cd) := fun s H A cl fp => by
      cases cd with
      | no =>
        cases ifs with
        | nil => exact pts_nil
        | cons _ _ => cases h4
      | yes c =>
        match ifs, h4 with
        | [f], h4 => exact pts_one (sE k c (X.blk s H scope (compEnvC scope cl A X.env) fp) f (C.blk s H scope _ fp) (fun n z => hn n (by simp [needE, needO, z])) h4).2
        | [], h4 => cases h4
        | _ :: _ :: _, h4 => cases h4
    have pe : ∀ (s : Shared) (H : Hp) (A : Addr) (cl : List (Str × Addr)) (fp : List Addr), PE (X.blk s H scope (compEnvC scope cl A X.env) fp) e' (RD X.K el) := fun s H A cl fp =>
      (sE k el _ e' (C.blk s H scope _ fp) (fun n z => hn n (by simp [needE, z])) h5).1
    exact (f_lcP (pos := pos) C lt (blkOk_by h2) ho pw (fun s H A cl fp => blk_targetT C h1 s H A cl fp) pt pe (ok_fold h3))
  | .lc2 t it t2 it2 cd el, _, hn, h => by
    obtain ⟨e', tg, w, tg2, w2, ifs, scope, pos, rfl, h1, h2, h3, h4, h5, h6, h7⟩ := inv_lc2 h
    obtain ⟨lt, ho⟩ := okT_lt h1
    obtain ⟨lt2, ho2⟩ := okT_lt h2
    have pw := sW k it X tg w C (fun n z => hn n (by simp [needE, z])) h4
    have pw2 : ∀ (s : Shared) (H : Hp) (A : Addr) (cl : List (Str × Addr)) (fp : List Addr), PI (X.blk s H scope (compEnvC scope cl A X.env) fp) tg2 w2 (RW X.K it2) := fun s H A cl fp =>
      sW k it2 _ tg2 w2 (C.blk s H scope _ fp) (fun n z => hn n (by simp [needE, z])) h5
    have pt : ∀ (s : Shared) (H : Hp) (A : Addr) (cl : List (Str × Addr)) (fp : List Addr), PTs (X.blk s H scope (compEnvC scope cl A X.env) fp) ifs (RC X.K cd) := fun s H A cl fp => by
      cases cd with
      | no =>
        cases ifs with
        | nil => exact pts_nil
        | cons _ _ => cases h6
      | yes c =>
        match ifs, h6 with
        | [f], h6 => exact pts_one (sE k c (X.blk s H scope (compEnvC scope cl A X.env) fp) f (C.blk s H scope _ fp) (fun n z => hn n (by simp [needE, needO, z])) h6).2
        | [], h6 => cases h6
        | _ :: _ :: _, h6 => cases h6
    have pe : ∀ (s : Shared) (H : Hp) (A : Addr) (cl : List (Str × Addr)) (fp : List Addr), PE (X.blk s H scope (compEnvC scope cl A X.env) fp) e' (RD X.K el) := fun s H A cl fp =>
      (sE k el _ e' (C.blk s H scope _ fp) (fun n z => hn n (by simp [needE, z])) h7).1
    exact (f_lc2 (pos := pos) C lt lt2 (blkOk_by h3) (by rw [List.map_append, ho, ho2]) pw (fun s H A cl fp => blk_targetT C h1 s H A cl fp) pw2 (fun s H A cl fp => blk_targetT C h2 s H A cl fp) pt pe (ok_fold h4) (fun env => ok_fold h5))
  | .sset a, _, hn, h => by
    obtain ⟨l, p1, p2, q, pos, rfl, h1, h2, h3⟩ := inv_sset h
    have pa := sE k a X l C (fun n z => hn n (by simp [needE, z])) h3
    exact f_sset C h1 h2 pa.1 (ok_star h3 _ _)
  | .lrng es, _, hn, h => by
    obtain ⟨l, p1, p2, q, pos, rfl, h1, h2, h3, h4⟩ := inv_lrng h
    have p : PE X (.Call (.Name "list" p1) [.Call (.Name "range" p2) l [] q] [] pos) (RDf X.K (.lrng es)) := by
      match es, l, h3, h4, hn with
      | .cons a .nil, [x], h3, h4, hn =>
        simp only [okEs, Bool.and_eq_true] at h3
        have pa := sE k a X x C (fun n z => hn n (by simp [needE, needEs, z])) h3.1
        exact (f_lrng1 C h1 h2 pa.1 (ok_star h3.1 _ _))
      | .cons a (.cons b .nil), [x, y], h3, h4, hn =>
        simp only [okEs, Bool.and_eq_true] at h3
        have pa := sE k a X x C (fun n z => hn n (by simp [needE, needEs, z])) h3.1
        have pb := sE k b X y C (fun n z => hn n (by simp [needE, needEs, z])) h3.2.1
        exact (f_lrng2 C h1 h2 pa.1 pb.1 (ok_star h3.1 _ _) (ok_star h3.2.1 _ _) (by rw [ok_star h3.2.1]; rfl))
      | .nil, _, h3, h4, hn => simp [exLen] at h4
      | .cons a (.cons b (.cons c d)), _, h3, h4, hn => simp [exLen] at h4
      | .cons a .nil, [], h3, h4, hn => simp [okEs] at h3
      | .cons a .nil, _ :: _ :: _, h3, h4, hn => simp [okEs] at h3
      | .cons a (.cons b .nil), [], h3, h4, hn => simp [okEs] at h3
      | .cons a (.cons b .nil), [_], h3, h4, hn => simp [okEs] at h3
      | .cons a (.cons b .nil), _ :: _ :: _ :: _, h3, h4, hn => simp [okEs] at h3
    exact p
/-- name = [..] on one line -/
theorem s_setLc {k : Nat} {X : Cx} {e : Expr} (C : Cxt k X) {i j : Nat} {y : Str} {py spos : Pos} {it : Wk} {cd : OEx} {el : Ex} (hn : ∀ n ∈ needE (.lc j it cd el), NeedX k X n) (h : okE X.N X.env.scope (.lc j it cd el) e = true) (hy : X.N[i]? = some y) (hyl : X.env.scope.names.lookup y = some .local)
    (hsw : swapsWith e (some (.Name y py)) spos.line X.env = pure true) : PS X (.Assign [.Name y py] e spos) (fun D σ H => RDf X.K (.lc j it cd el) σ H fun v H1 => D.nx (σ.set i (some v)) H1) := by
  obtain ⟨e', x, px, w, ifs, scope, pos, rfl, h1, h2, h3, h4, h5, h6⟩ := inv_lc h
  have pw := sW k it X (.Name x px) w C (fun n z => hn n (by simp [needE, z])) h3
  have pt : ∀ (s : Shared) (H : Hp) (A : Addr) (cl : List (Str × Addr)) (fp : List Addr), PTs (X.blk s H scope (compEnvC scope cl A X.env) fp) ifs (RC X.K cd) := fun s H A cl fp => by
    cases cd with
    | no =>
      cases ifs with
      | nil => exact pts_nil
      | cons _ _ => cases h4
    | yes c =>
      match ifs, h4 with
      | [f], h4 => exact pts_one (sE k c (X.blk s H scope (compEnvC scope cl A X.env) fp) f (C.blk s H scope _ fp) (fun n z => hn n (by simp [needE, needO, z])) h4).2
      | [], h4 => cases h4
      | _ :: _ :: _, h4 => cases h4
  have pe : ∀ (s : Shared) (H : Hp) (A : Addr) (cl : List (Str × Addr)) (fp : List Addr), PE (X.blk s H scope (compEnvC scope cl A X.env) fp) e' (RD X.K el) := fun s H A cl fp =>
    (sE k el _ e' (C.blk s H scope _ fp) (fun n z => hn n (by simp [needE, z])) h5).1
  refine ⟨fun pins s σ H D I hq => (ps_setLc C.calm C.nd hy hyl hsw pw (blkOk_by h2) (fun s H A cl fp => blk_target C h1 h6 s H A cl fp) pt pe (ok_fold h3)).run pins s σ H D I ?_⟩
  exact lc_read (by rw [I.len]; exact (List.getElem?_eq_some_iff.mp h1).1) hq
theorem s_setLcP {k : Nat} {X : Cx} {e : Expr} (C : Cxt k X) {i : Nat} {t : Tgt} {y : Str} {py spos : Pos} {it : Wk} {cd : OEx} {el : Ex} (hn : ∀ n ∈ needE (.lcP t it cd el), NeedX k X n) (h : okE X.N X.env.scope (.lcP t it cd el) e = true) (hy : X.N[i]? = some y) (hyl : X.env.scope.names.lookup y = some .local)
    (hsw : swapsWith e (some (.Name y py)) spos.line X.env = pure true) : PS X (.Assign [.Name y py] e spos) (fun D σ H => RDf X.K (.lcP t it cd el) σ H fun v H1 => D.nx (σ.set i (some v)) H1) := by
  obtain ⟨e', tg, w, ifs, scope, pos, rfl, h1, h2, h3, h4, h5⟩ := inv_lcP h
  obtain ⟨lt, ho⟩ := okT_lt h1
  have pw := sW k it X tg w C (fun n z => hn n (by simp [needE, z])) h3
  have pt : ∀ (s : Shared) (H : Hp) (A : Addr) (cl : List (Str × Addr)) (fp : List Addr), PTs (X.blk s H scope (compEnvC scope cl A X.env) fp) ifs (RC X.K cd) := fun s H A cl fp => by
    cases cd with
    | no =>
      cases ifs with
      | nil => exact pts_nil
      | cons _ _ => cases h4
    | yes c =>
      match ifs, h4 with
      | [f], h4 => exact pts_one (sE k c (X.blk s H scope (compEnvC scope cl A X.env) fp) f (C.blk s H scope _ fp) (fun n z => hn n (by simp [needE, needO, z])) h4).2
      | [], h4 => cases h4
      | _ :: _ :: _, h4 => cases h4
  have pe : ∀ (s : Shared) (H : Hp) (A : Addr) (cl : List (Str × Addr)) (fp : List Addr), PE (X.blk s H scope (compEnvC scope cl A X.env) fp) e' (RD X.K el) := fun s H A cl fp =>
    (sE k el _ e' (C.blk s H scope _ fp) (fun n z => hn n (by simp [needE, z])) h5).1
  refine ⟨fun pins s σ H D I hq => (ps_setLc C.calm C.nd hy hyl hsw pw (blkOk_by h2) (fun s H A cl fp => blk_targetT C h1 s H A cl fp) pt pe (ok_fold h3)).run pins s σ H D I ?_⟩
  rw [ho]
  exact lcP_read (fun i h => by rw [I.len]; exact lt i h) hq
theorem s_setLc2 {k : Nat} {X : Cx} {e : Expr} (C : Cxt k X) {i : Nat} {t t2 : Tgt} {y : Str} {py spos : Pos} {it it2 : Wk} {cd : OEx} {el : Ex} (hn : ∀ n ∈ needE (.lc2 t it t2 it2 cd el), NeedX k X n) (h : okE X.N X.env.scope (.lc2 t it t2 it2 cd el) e = true) (hy : X.N[i]? = some y) (hyl : X.env.scope.names.lookup y = some .local)
    (hsw : swapsWith e (some (.Name y py)) spos.line X.env = pure true) : PS X (.Assign [.Name y py] e spos) (fun D σ H => RDf X.K (.lc2 t it t2 it2 cd el) σ H fun v H1 => D.nx (σ.set i (some v)) H1) := by
  obtain ⟨e', tg, w, tg2, w2, ifs, scope, pos, rfl, h1, h2, h3, h4, h5, h6, h7⟩ := inv_lc2 h
  obtain ⟨lt, ho⟩ := okT_lt h1
  obtain ⟨lt2, ho2⟩ := okT_lt h2
  have pw := sW k it X tg w C (fun n z => hn n (by simp [needE, z])) h4
  have pw2 : ∀ (s : Shared) (H : Hp) (A : Addr) (cl : List (Str × Addr)) (fp : List Addr), PI (X.blk s H scope (compEnvC scope cl A X.env) fp) tg2 w2 (RW X.K it2) := fun s H A cl fp =>
    sW k it2 _ tg2 w2 (C.blk s H scope _ fp) (fun n z => hn n (by simp [needE, z])) h5
  have pt : ∀ (s : Shared) (H : Hp) (A : Addr) (cl : List (Str × Addr)) (fp : List Addr), PTs (X.blk s H scope (compEnvC scope cl A X.env) fp) ifs (RC X.K cd) := fun s H A cl fp => by
    cases cd with
    | no =>
      cases ifs with
      | nil => exact pts_nil
      | cons _ _ => cases h6
    | yes c =>
      match ifs, h6 with
      | [f], h6 => exact pts_one (sE k c (X.blk s H scope (compEnvC scope cl A X.env) fp) f (C.blk s H scope _ fp) (fun n z => hn n (by simp [needE, needO, z])) h6).2
      | [], h6 => cases h6
      | _ :: _ :: _, h6 => cases h6
  have pe : ∀ (s : Shared) (H : Hp) (A : Addr) (cl : List (Str × Addr)) (fp : List Addr), PE (X.blk s H scope (compEnvC scope cl A X.env) fp) e' (RD X.K el) := fun s H A cl fp =>
    (sE k el _ e' (C.blk s H scope _ fp) (fun n z => hn n (by simp [needE, z])) h7).1
  have ho3 : (ownT t tg ++ ownT t2 tg2).map (·.2) = t.ix ++ t2.ix := by rw [List.map_append, ho, ho2]
  refine ⟨fun pins s σ H D I hq => (ps_setLc2 C.calm C.nd hy hyl hsw pw (blkOk_by h3) (vs1 := t2.ix) (fun i h => by rw [ho3]; exact List.mem_append_right _ h) (fun s H A cl fp => blk_targetT C h1 s H A cl fp) (fun _ _ _ _ _ => pts_nil) pw2 (fun s H A cl fp => blk_targetT C h2 s H A cl fp) pt pe (ok_fold h4) (fun env => ok_fold h5)).run pins s σ H D I ?_⟩
  rw [ho3]
  exact lc2_read (fun i h => by rw [I.len]; exact lt i h) (fun i h => by rw [I.len]; exact lt2 i h) hq
theorem sw_cases {X : Cx} (hk : X.env.scope.kind = .function) {e : Expr} {y : Str} {py : Pos} {l : Nat} : swapsWith e (some (.Name y py)) l X.env = pure false ∨ (swapsWith e (some (.Name y py)) l X.env = pure true ∧ X.env.scope.names.lookup y = some .local ∧ ∃ a b c d, e = .ListComp a b c d ∨ e = .SetComp a b c d ∨ ∃ z, e = .DictComp a z b c d) := by
  have key : ∀ b : Bool, (b = true → X.env.scope.names.lookup y = some .local) → (pure b : Sem Bool) = pure false ∨ ((pure b : Sem Bool) = pure true ∧ X.env.scope.names.lookup y = some .local) := fun b h => by
    cases b with
    | false => exact .inl rfl
    | true => exact .inr ⟨rfl, h rfl⟩
  have go : ∀ (sc : Scope) (ln : Nat), (pure (X.env.blockKind == .function && X.env.kindOf y == some .local && py.line == ln && !(sc.names.any fun (n, k) => n == y && (k == .local || k == .cell))) : Sem Bool) = pure false ∨
      ((pure (X.env.blockKind == .function && X.env.kindOf y == some .local && py.line == ln && !(sc.names.any fun (n, k) => n == y && (k == .local || k == .cell))) : Sem Bool) = pure true ∧ X.env.scope.names.lookup y = some .local) := fun sc ln => key _ fun h => by
    simp only [Bool.and_eq_true] at h
    exact eq_of_beq h.1.1.2
  cases e with
  | ListComp a b c d => exact (go c d.line).imp id fun z => ⟨z.1, z.2, a, b, c, d, .inl rfl⟩
  | SetComp a b c d => exact (go c d.line).imp id fun z => ⟨z.1, z.2, a, b, c, d, .inr (.inl rfl)⟩
  | DictComp a x b c d => exact (go c d.line).imp id fun z => ⟨z.1, z.2, a, b, c, d, .inr (.inr ⟨x, rfl⟩)⟩
  | _ => exact .inl rfl
end Pu
set_option Elab.async false
set_option linter.all false
set_option maxRecDepth 100000
set_option maxHeartbeats 1000000
namespace Pu
open PySem PySem.Spec PyProof.Rows L2

section
variable {k : Nat} {X : Cx}
theorem inv_ns {N : List Str} {sc : Scope} {i : Nat} {is : List Nat} {l : List Expr} (h : okNs N sc (i :: is) l = true) : ∃ x p r, l = .Name x p :: r ∧ N[i]? = some x ∧ locB sc x = true ∧ okNs N sc is r = true := by
  cases l with
  | nil => simp [okNs] at h
  | cons e l =>
    cases e with
    | Name x p =>
      simp only [okNs, Bool.and_eq_true, decide_eq_true_eq] at h
      exact ⟨_, _, _, rfl, h.1.1, h.1.2, h.2⟩
    | _ => simp [okNs] at h
theorem ns_nil {N : List Str} {sc : Scope} {l : List Expr} (h : okNs N sc [] l = true) : l = [] := by
  cases l with
  | nil => rfl
  | cons a r => cases a <;> simp [okNs] at h
theorem ns_lt {N : List Str} {sc : Scope} : ∀ {is : List Nat} {l : List Expr}, okNs N sc is l = true → ∀ i ∈ is, i < N.length
  | [], _, _, i, hi => by cases hi
  | j :: is, l, h, i, hi => by
    obtain ⟨x, p, r, rfl, h1, h2, h3⟩ := inv_ns h
    rcases List.mem_cons.mp hi with rfl | hi
    · exact (List.getElem?_eq_some_iff.mp h1).1
    · exact ns_lt h3 i hi
theorem pgs_names (C : CxS k X) : ∀ {is : List Nat} {l : List Expr}, okNs X.N X.env.scope is l = true → PGs X l (gNames is) ∧ (assignEach l X.env).length = is.length ∧ (assignEach l X.env).findIdx? (·.1) = none
  | [], l, h => by rw [ns_nil h]; exact ⟨pgs_nil, rfl, rfl⟩
  | i :: is, l, h => by
    obtain ⟨x, p, r, rfl, h1, h2, h3⟩ := inv_ns h
    obtain ⟨q1, q2, q3⟩ := pgs_names C h3
    refine ⟨pgs_cons (pg_name C.nd h1 (ok_loc h2) (.inl (C.fn x))) q1, ?_, ?_⟩
    · show (_ :: assignEach r X.env).length = _
      rw [List.length_cons, q2, List.length_cons]
    · show ((false, assign (.Name x p) X.env) :: assignEach r X.env).findIdx? (·.1) = none
      rw [List.findIdx?_cons, q3]
      rfl
theorem pg_names (C : CxS k X) {is : List Nat} {l : List Expr} {j : Nat} {p : Pos} (h : okNs X.N X.env.scope is l = true) : PG X (.Tuple l j p) (gTup X.K is.length (gNames is)) := by
  obtain ⟨q1, q2, q3⟩ := pgs_names C h
  exact pg_tup C.calm q1 q2 q3
theorem sole_tup {l : List Expr} {j ln : Nat} {p : Pos} {e : Expr} {env : PySem.Env} : swapsWithSole [.Tuple l j p] e ln env = pure false := by cases e <;> rfl
theorem sole_sub {o i : Expr} {ln : Nat} {p : Pos} {e : Expr} {env : PySem.Env} : swapsWithSole [.Subscript o i p] e ln env = pure false := by cases e <;> rfl
theorem sto_tup {l : List Expr} {j : Nat} {p : Pos} {e : Expr} {env : PySem.Env} (h : (match e with | .Tuple _ _ _ => false | _ => true) = true) : swappedStores [.Tuple l j p] e env = pure none := by
  cases e <;> first | rfl | cases h
theorem sto_sub {o i : Expr} {p : Pos} {e : Expr} {env : PySem.Env} : swappedStores [.Subscript o i p] e env = pure none := by
  cases e <;> rfl
theorem ok_nostar {N : List Str} {sc : Scope} : ∀ {es : Exs} {l : List Expr}, okEs N sc es l = true → l.any isStarE = false
  | .nil, [], _ => rfl
  | .nil, _ :: _, h => by simp [okEs] at h
  | .cons _ _, [], h => by simp [okEs] at h
  | .cons ex es, e :: l, h => by
    rw [okEs, Bool.and_eq_true] at h
    rw [List.any_cons, ok_nostar h.2]
    cases e <;> first | rfl | (cases ex <;> simp [okE] at h)
theorem sw_true {sc : Scope} {ts vs : List Expr} (h : swB sc ts vs = some true) : (ts.length = 2 ∨ ts.length = 3) ∧ vs.length = ts.length ∧ (swNames sc ts).length = ts.length := by
  unfold swB at h
  split at h
  · cases h
  · rename_i h1
    split at h
    · cases h
    · rename_i h2
      simp only [Bool.or_eq_true, not_or, Bool.not_eq_true', Bool.not_eq_true, bne_iff_ne, ne_eq, Decidable.not_not, Bool.not_eq_false', Bool.or_eq_true, beq_iff_eq, bne_eq_false_iff_eq] at h1 h2
      refine ⟨?_, h1.2, h2.1⟩
      have := h1.1
      have t : ¬ts.length = 2 → ts.length = 3 := by simpa using this
      omega
theorem fm_all {α β : Type} {f : α → Option β} {nm : α → β} (hf : ∀ e y, f e = some y → y = nm e) : ∀ {l : List α}, (l.filterMap f).length = l.length → l.filterMap f = l.map nm
  | [], _ => rfl
  | a :: l, h => by
    cases q : f a with
    | none =>
      rw [List.filterMap_cons_none q, List.length_cons] at h
      have := List.length_filterMap_le f l
      omega
    | some y =>
      rw [List.filterMap_cons_some q] at h ⊢
      rw [List.map_cons, fm_all hf (by simpa using h), hf a y q]
def nmOf : Expr → Str
  | .Name x _ => x
  | _ => ""
theorem sw_nm {sc : Scope} {ts : List Expr} (h : (swNames sc ts).length = ts.length) : swNames sc ts = ts.map nmOf := by
  unfold swNames at h ⊢
  refine fm_all (fun e y q => ?_) h
  cases e with
  | Name x p =>
    simp only at q
    split at q
    · exact (Option.some.inj q).symm
    · cases q
  | _ => cases q
theorem mt_appendX : MtR X "list.append" rAppend := mt_append
/-- the parallel store -/
theorem s_par (C : CxS k X) {is : List Nat} {es : Exs} {ts vs : List Expr} {j1 j2 : Nat} {p1 p2 pos : Pos} (hn : ∀ n ∈ needEs es, NeedX k X n) (ht : okNs X.N X.env.scope is ts = true) (he : okEs X.N X.env.scope es vs = true)
    (hs : (match swB X.env.scope ts vs with | none => false | some false => true | some true => locAll X.env.scope ts && decide (is.Nodup)) = true) (h16 : is.length < 16) {n : Nat} :
    PS X (.Assign [.Tuple ts j1 p1] (.Tuple vs j2 p2) pos) (RS X.K X.N.length n (.par is es)) := by
  have pa := sA k es X vs C.toCxt hn he
  have ns := ok_nostar he
  have lt := ns_lt ht
  split at hs
  · cases hs
  · rename_i hb
    have hw := sw_eq (k := j1) (k2 := j2) (p := p1) (p2 := p2) C.kind ns hb
    rw [if_neg Bool.false_ne_true] at hw
    refine ⟨fun pins s σ H D I hq => (ps_asg (pe_tup pa) (pg_names C ht) sole_tup hw rfl).run pins s σ H D I ?_⟩
    obtain ⟨hd, pa, pl, env, ds, pl', A, e1, q⟩ := par_read lt hq
    refine ⟨hd, pa, pl, env, ds, pl', A, e1, fun vs' H1 pa' s g rv => ?_⟩
    obtain ⟨hl, q⟩ := q vs' H1 pa' s g rv
    refine ⟨by rw [hl]; exact Nat.le_trans (Nat.le_of_lt h16) (by decide), fun a ha => ⟨a, vs', rfl, SqT.of upd_same, hl, q _ fun b o h => by rw [upd_ne (ne_of_none h ha)]; exact h⟩⟩
  · rename_i hb
    simp only [Bool.and_eq_true, decide_eq_true_eq] at hs
    obtain ⟨hl, nd⟩ := hs
    have hw := sw_eq (k := j1) (k2 := j2) (p := p1) (p2 := p2) C.kind ns hb
    rw [if_pos rfl] at hw
    obtain ⟨h23, hvl, hsn⟩ := sw_true hb
    match is, ht with
    | [], ht => rw [ns_nil ht] at h23; simp at h23
    | [_], ht =>
      obtain ⟨x, p, r, rfl, h1, h2, h3⟩ := inv_ns ht
      rw [ns_nil h3] at h23
      simp at h23
    | [i, j], ht =>
      obtain ⟨x, px, r, rfl, h1, h2, h3⟩ := inv_ns ht
      obtain ⟨y, py, r, rfl, h4, h5, h6⟩ := inv_ns h3
      cases ns_nil h6
      obtain ⟨a, b, rfl⟩ := len_two (show vs.length = 2 from hvl)
      rw [sw_nm hsn] at hw
      simp only [locAll, List.all_cons, List.all_nil, Bool.and_true, Bool.and_eq_true, decide_eq_true_eq] at hl
      have hij : i ≠ j := by
        intro z
        simp [z] at nd
      refine ⟨fun pins s σ H D I hq => (ps_par C.calm C.nd h1 h4 hij hl.1 hl.2 pa hw sole_tup).run pins s σ H D I ?_⟩
      obtain ⟨hd, pa, pl, env, ds, pl', A, e1, q⟩ := par_read lt hq
      refine ⟨hd, pa, pl, env, ds, pl', A, e1, fun vs' H1 pa' s g rv => ?_⟩
      obtain ⟨v, r1, rfl, w, r2, rfl, rfl, q⟩ := (q vs' H1 pa' s g rv).2 H1 fun _ _ h => h
      exact ⟨v, w, rfl, q⟩
    | [i, j, l], ht =>
      obtain ⟨x, px, r, rfl, h1, h2, h3⟩ := inv_ns ht
      obtain ⟨y, py, r, rfl, h4, h5, h6⟩ := inv_ns h3
      obtain ⟨z, pz, r, rfl, h7, h8, h9⟩ := inv_ns h6
      cases ns_nil h9
      obtain ⟨a, b, c, rfl⟩ := len_three (show vs.length = 3 from hvl)
      rw [sw_nm hsn] at hw
      simp only [locAll, List.all_cons, List.all_nil, Bool.and_true, Bool.and_eq_true, decide_eq_true_eq] at hl
      simp only [List.nodup_cons, List.mem_cons, List.not_mem_nil, or_false, not_or, not_false_eq_true, and_true] at nd
      obtain ⟨⟨n1, n2⟩, n3, _⟩ := nd
      refine ⟨fun pins s σ H D I hq => (ps_par3 C.calm C.nd h1 h4 h7 n1 n2 n3 hl.1 hl.2.1 hl.2.2 pa hw sole_tup).run pins s σ H D I ?_⟩
      obtain ⟨hd, pa, pl, env, ds, pl', A, e1, q⟩ := par_read lt hq
      refine ⟨hd, pa, pl, env, ds, pl', A, e1, fun vs' H1 pa' s g rv => ?_⟩
      obtain ⟨v, r1, rfl, w, r2, rfl, u, r3, rfl, rfl, q⟩ := (q vs' H1 pa' s g rv).2 H1 fun _ _ h => h
      exact ⟨v, w, u, rfl, q⟩
    | i :: j :: l :: m :: is, ht =>
      obtain ⟨x, px, r, rfl, h1, h2, h3⟩ := inv_ns ht
      obtain ⟨y, py, r, rfl, h4, h5, h6⟩ := inv_ns h3
      obtain ⟨z, pz, r, rfl, h7, h8, h9⟩ := inv_ns h6
      obtain ⟨z, pz, r, rfl, h7, h8, h9⟩ := inv_ns h9
      simp at h23
end
end Pu
set_option Elab.async false
set_option linter.all false
set_option maxRecDepth 100000
set_option maxHeartbeats 1000000
namespace Pu
open PySem PySem.Spec PyProof.Rows L2

section
variable {X : Cx} {e : Expr} {tg : Expr} {pos : Pos}
theorem ps_weak {st : Stmt} {t u : TS} (h : PS X st t) (hw : ∀ D σ H, σ.length = X.N.length → u D σ H → t D σ H) : PS X st u := ⟨fun pins s σ H D I hq => h.run pins s σ H D I (hw D σ H I.len hq)⟩
theorem inv_asg {N : List Str} {sc : Scope} {own : Bool} {i : Nat} {ex : Ex} {st : Stmt} (h : okS N sc (.asg own i ex) st = true) :
    ∃ x p y pos, st = .Assign [.Name x p] y pos ∧ N[i]? = some x ∧ locB sc x = true ∧ okE N sc ex y = true ∧ (own = true → fresh ex = true) := by
  unfold okS at h
  split at h <;> first | (cases h; done) | (rename_i e1; cases e1; done) | skip
  rename_i e1
  cases e1
  simp only [Bool.and_eq_true, Bool.or_eq_true, Bool.not_eq_true', decide_eq_true_eq] at h
  exact ⟨_, _, _, _, rfl, h.1.1, h.1.2, h.2.1, fun z => h.2.2.resolve_left (by rw [z]; simp)⟩
theorem inv_unp {N : List Str} {sc : Scope} {is : List Nat} {ex : Ex} {st : Stmt} (h : okS N sc (.unp is ex) st = true) :
    ∃ l j p y pos, st = .Assign [.Tuple l j p] y pos ∧ okNs N sc is l = true ∧ okE N sc ex y = true ∧ (match y with | .Tuple _ _ _ => false | _ => true) = true := by
  unfold okS at h
  split at h <;> first | (cases h; done) | (rename_i e1; cases e1; done) | skip
  rename_i e1
  cases e1
  simp only [Bool.and_eq_true] at h
  exact ⟨_, _, _, _, _, rfl, h.1, h.2.1, h.2.2⟩
theorem inv_par {N : List Str} {sc : Scope} {is : List Nat} {es : Exs} {st : Stmt} (h : okS N sc (.par is es) st = true) :
    ∃ l j p vs j2 p2 pos, st = .Assign [.Tuple l j p] (.Tuple vs j2 p2) pos ∧ okNs N sc is l = true ∧ okEs N sc es vs = true ∧
      (match swB sc l vs with | none => false | some false => true | some true => locAll sc l && decide (is.Nodup)) = true ∧ is.length < 16 := by
  unfold okS at h
  split at h <;> first | (cases h; done) | (rename_i e1; cases e1; done) | skip
  rename_i e1
  cases e1
  simp only [Bool.and_eq_true, decide_eq_true_eq] at h
  exact ⟨_, _, _, _, _, _, _, rfl, h.1, h.2.1, h.2.2.1, h.2.2.2⟩
theorem inv_aug {N : List Str} {sc : Scope} {i : Nat} {op : Operator} {ex : Ex} {st : Stmt} (h : okS N sc (.aug i op ex) st = true) :
    ∃ x p y pos, st = .AugAssign (.Name x p) op y pos ∧ N[i]? = some x ∧ locB sc x = true ∧ okE N sc ex y = true ∧ op ≠ .Pow := by
  unfold okS at h
  split at h <;> first | (cases h; done) | (rename_i e1; cases e1; done) | skip
  rename_i e1
  cases e1
  simp only [Bool.and_eq_true, decide_eq_true_eq] at h
  obtain ⟨⟨h1, h2⟩, h3, rfl, h4⟩ := h
  exact ⟨_, _, _, _, rfl, h1, h2, h3, h4⟩
theorem inv_app {N : List Str} {sc : Scope} {i : Nat} {ex : Ex} {st : Stmt} (h : okS N sc (.app i ex) st = true) :
    ∃ x p1 p y q pos, st = .Expr (.Call (.Attribute (.Name x p1) "append" p) [y] [] q) pos ∧ N[i]? = some x ∧ visB sc x = true ∧ okE N sc ex y = true ∧ p.endLine = q.line := by
  unfold okS at h
  split at h <;> first | (cases h; done) | (rename_i e1; cases e1; done) | skip
  rename_i e1
  cases e1
  simp only [Bool.and_eq_true, decide_eq_true_eq] at h
  obtain ⟨⟨h1, h2⟩, h3, rfl, h4⟩ := h
  exact ⟨_, _, _, _, _, _, rfl, h1, h2, h3, h4⟩
theorem inv_ext {N : List Str} {sc : Scope} {i : Nat} {ex : Ex} {st : Stmt} (h : okS N sc (.ext i ex) st = true) :
    ∃ x p1 p y q pos, st = .Expr (.Call (.Attribute (.Name x p1) "extend" p) [y] [] q) pos ∧ N[i]? = some x ∧ visB sc x = true ∧ okE N sc ex y = true ∧ p.endLine = q.line := by
  unfold okS at h
  split at h <;> first | (cases h; done) | (rename_i e1; cases e1; done) | skip
  rename_i e1
  cases e1
  simp only [Bool.and_eq_true, decide_eq_true_eq] at h
  obtain ⟨⟨h1, h2⟩, h3, rfl, h4⟩ := h
  exact ⟨_, _, _, _, _, _, rfl, h1, h2, h3, h4⟩
theorem inv_setI {N : List Str} {sc : Scope} {i : Nat} {ki ex : Ex} {st : Stmt} (h : okS N sc (.setI i ki ex) st = true) :
    ∃ x p y q z pos, st = .Assign [.Subscript (.Name x p) y q] z pos ∧ N[i]? = some x ∧ visB sc x = true ∧ okE N sc ki y = true ∧ okE N sc ex z = true ∧ (match y with | .Slice _ _ _ _ => false | _ => true) = true := by
  unfold okS at h
  split at h <;> first | (cases h; done) | (rename_i e1; cases e1; done) | skip
  rename_i e1
  cases e1
  simp only [Bool.and_eq_true, decide_eq_true_eq] at h
  exact ⟨_, _, _, _, _, _, rfl, h.1.1, h.1.2, h.2.1, h.2.2.1, h.2.2.2⟩
theorem inv_pop {N : List Str} {sc : Scope} {i : Nat} {st : Stmt} (h : okS N sc (.pop i) st = true) :
    ∃ x p1 p q pos, st = .Expr (.Call (.Attribute (.Name x p1) "pop" p) [] [] q) pos ∧ N[i]? = some x ∧ visB sc x = true ∧ p.endLine = q.line := by
  unfold okS at h
  split at h <;> first | (cases h; done) | (rename_i e1; cases e1; done) | skip
  rename_i e1
  cases e1
  simp only [Bool.and_eq_true, decide_eq_true_eq] at h
  obtain ⟨⟨h1, h2⟩, rfl, h4⟩ := h
  exact ⟨_, _, _, _, _, rfl, h1, h2, h4⟩
theorem inv_popT {N : List Str} {sc : Scope} {j i : Nat} {k : OEx} {st : Stmt} (h : okS N sc (.popT j i k) st = true) :
    ∃ z pz x p1 p l q pos, st = .Assign [.Name z pz] (.Call (.Attribute (.Name x p1) "pop" p) l [] q) pos ∧ N[j]? = some z ∧ locB sc z = true ∧ N[i]? = some x ∧ visB sc x = true ∧ p.endLine = q.line ∧
      (match (generalizing := false) k, l with | .no, [] => true | .yes e, [y] => okE N sc e y | _, _ => false) = true := by
  unfold okS at h
  split at h
  all_goals try (cases h; done)
  all_goals try (rename_i e1; cases e1; done)
  rename_i e1
  cases e1
  simp only [Bool.and_eq_true, decide_eq_true_eq] at h
  obtain ⟨⟨⟨h1, h2⟩, ⟨h3, h4⟩, rfl, h5⟩, h6⟩ := h
  exact ⟨_, _, _, _, _, _, _, _, rfl, h1, h2, h3, h4, h5, h6⟩
theorem inv_for {N : List Str} {sc : Scope} {i : Nat} {w : Wk} {b : Sts} {st : Stmt} (h : okS N sc (.for_ i w b) st = true) :
    ∃ x p y l q, st = .For (.Name x p) y l [] q ∧ N[i]? = some x ∧ locB sc x = true ∧ okW N sc w y = true ∧ okSs N sc b l = true := by
  unfold okS at h
  split at h <;> first | (cases h; done) | (rename_i e1; cases e1; done) | skip
  rename_i e1
  cases e1
  simp only [Bool.and_eq_true, decide_eq_true_eq] at h
  exact ⟨_, _, _, _, _, rfl, h.1.1, h.1.2, h.2.1, h.2.2⟩
theorem inv_forT {N : List Str} {sc : Scope} {is : List Nat} {w : Wk} {b : Sts} {st : Stmt} (h : okS N sc (.forT is w b) st = true) :
    ∃ t j p y l q, st = .For (.Tuple t j p) y l [] q ∧ okNs N sc is t = true ∧ okW N sc w y = true ∧ okSs N sc b l = true := by
  unfold okS at h
  split at h <;> first | (cases h; done) | (rename_i e1; cases e1; done) | skip
  rename_i e1
  cases e1
  simp only [Bool.and_eq_true, decide_eq_true_eq] at h
  exact ⟨_, _, _, _, _, _, rfl, h.1, h.2.1, h.2.2⟩
theorem inv_whl {N : List Str} {sc : Scope} {c : Ex} {b : Sts} {st : Stmt} (h : okS N sc (.whl c b) st = true) :
    ∃ x l q, st = .While x l [] q ∧ okE N sc c x = true ∧ okSs N sc b l = true := by
  unfold okS at h
  split at h <;> first | (cases h; done) | (rename_i e1; cases e1; done) | skip
  rename_i e1
  cases e1
  simp only [Bool.and_eq_true] at h
  exact ⟨_, _, _, rfl, h.1, h.2⟩
theorem tvar_vis {i : Nat} {x : Str} {p : Pos} (hN : X.N[i]? = some x) (hv : visB X.env.scope x = true) : PE X (.Name x p) (tVar i) := by
  obtain ⟨h1, h2, h3⟩ := ok_vis hv
  exact pe_var hN h1 h2 h3
theorem ok_vis' {sc : Scope} {x : Str} (h : visB sc x = true) {env : PySem.Env} {nm : Str} {p : Pos} : attributeBase (.Name x p) nm env (eval (.Name x p) env) = eval (.Name x p) env := rfl
/-- a method with one argument of a list under a name -/
theorem pe_one {k : Nat} (C : Cxt k X) {i : Nat} {x y : Str} {ex : Ex} {p1 p q : Pos} {id : String} {r : V → List V → Hp → VK → Prop} (slot : PySem.Slot "list" y id) (hty : typeOf (.builtin id) = pure (.type "method_descriptor")) (hm : MtR X id r)
    (hN : X.N[i]? = some x) (hv : visB X.env.scope x = true) (he : PE X e (RD X.K ex)) (ok : okE X.N X.env.scope ex e = true) (hl : p.endLine = q.line) :
    PE X (.Call (.Attribute (.Name x p1) y p) [e] [] q) (tBM X.K "list" r (tVar i) (tCons (RD X.K ex) tNil)) := by
  have st := ok_star ok [] X.env
  refine pe_bm PySem.F.plainAttrs_list slot hty hm (tvar_vis hN hv) (pa_cons he pa_nil st) rfl ?_ (by rw [hl]; simp) st rfl
  have : (backTo q (starEach [e] X.env)).all (fun x => !x.1) = true := by rw [st]; rfl
  rw [this]
  rfl
end
mutual
theorem sS (k n : Nat) : ∀ (s : St) (X : Cx) (st : Stmt), CxS k X → (∀ n ∈ needS s, NeedX k X n) → okS X.N X.env.scope s st = true → PS X st (RS X.K X.N.length n s)
  | .asg own i ex, X, st, C, hn, h => by
    obtain ⟨x, p, y, pos, rfl, h1, h2, h3, h4⟩ := inv_asg h
    have hi := (List.getElem?_eq_some_iff.mp h1).1
    have hn' : ∀ n ∈ needE ex, NeedX k X n := fun n z => hn n (by simpa [needS] using z)
    have pe := (sE k ex X y C.toCxt hn' h3).1
    rcases sw_cases (X := X) C.kind (e := y) (y := x) (py := p) (l := pos.line) with z | ⟨z, z2, _⟩
    · cases own with
      | false => exact ps_weak (ps_set C.nd h1 (ok_loc h2) pe z (.inl (C.fn x))) fun D σ H _ q => asg_read hi q
      | true => exact ps_weak (ps_set C.nd h1 (ok_loc h2) (sF k X y C.toCxt ex (h4 rfl) hn' h3) z (.inl (C.fn x))) fun D σ H _ q => asg_readF hi q
    · have lc : (∃ a b c d, ex = .lc a b c d) ∨ (∃ a b c d, ex = .lcP a b c d) ∨ ∃ a b c d f g, ex = .lc2 a b c d f g := by
        obtain ⟨a, b, c, d, zz⟩ := (by assumption : ∃ a b c d, y = .ListComp a b c d ∨ y = .SetComp a b c d ∨ ∃ z, y = .DictComp a z b c d)
        rcases zz with rfl | rfl | ⟨_, rfl⟩ <;> cases ex <;> first | exact .inl ⟨_, _, _, _, rfl⟩ | exact .inr (.inl ⟨_, _, _, _, rfl⟩) | exact .inr (.inr ⟨_, _, _, _, _, _, rfl⟩) | (simp [okE] at h3; done)
      rcases lc with ⟨a, b, c, d, rfl⟩ | ⟨a, b, c, d, rfl⟩ | ⟨a, b, c, d, f, g, rfl⟩
      · cases own with
        | false => exact ps_weak (s_setLc C.toCxt hn' h3 h1 z2 z) fun D σ H _ q => (asg_read hi q).toF
        | true => exact ps_weak (s_setLc C.toCxt hn' h3 h1 z2 z) fun D σ H _ q => asg_readF hi q
      · cases own with
        | false => exact ps_weak (s_setLcP C.toCxt hn' h3 h1 z2 z) fun D σ H _ q => (asg_read hi q).toF
        | true => exact ps_weak (s_setLcP C.toCxt hn' h3 h1 z2 z) fun D σ H _ q => asg_readF hi q
      · cases own with
        | false => exact ps_weak (s_setLc2 C.toCxt hn' h3 h1 z2 z) fun D σ H _ q => (asg_read hi q).toF
        | true => exact ps_weak (s_setLc2 C.toCxt hn' h3 h1 z2 z) fun D σ H _ q => asg_readF hi q
  | .unp is ex, X, st, C, hn, h => by
    obtain ⟨l, j, p, y, pos, rfl, h1, h2, h3⟩ := inv_unp h
    have pe := (sE k ex X y C.toCxt (fun n z => hn n (by simpa [needS] using z)) h2).1
    exact ps_weak (ps_asg pe (pg_names C h1) sole_tup (sto_tup h3) rfl) fun D σ H _ q => unp_read (ns_lt h1) q
  | .par is es, X, st, C, hn, h => by
    obtain ⟨l, j, p, vs, j2, p2, pos, rfl, h1, h2, h3, h4⟩ := inv_par h
    exact s_par C (fun n z => hn n (by simpa [needS] using z)) h1 h2 h3 h4
  | .aug i op ex, X, st, C, hn, h => by
    obtain ⟨x, p, y, pos, rfl, h1, h2, h3, h4⟩ := inv_aug h
    have pe := (sE k ex X y C.toCxt (fun n z => hn n (by simpa [needS] using z)) h3).1
    exact ps_weak (ps_aug C.nd h1 (ok_loc h2) pe (pip_aug op h4) (.inl (C.fn x))) fun D σ H _ q => aug_read (List.getElem?_eq_some_iff.mp h1).1 q
  | .app i ex, X, st, C, hn, h => by
    obtain ⟨x, p1, p, y, q, pos, rfl, h1, h2, h3, h4⟩ := inv_app h
    have pe := (sE k ex X y C.toCxt (fun n z => hn n (by simpa [needS] using z)) h3).1
    exact ps_weak (ps_expr (pe_one C.toCxt PySem.F.slot_list_append PySem.F.type_list_append mt_append h1 h2 pe h3 h4)) fun D σ H _ q => app_read q
  | .ext i ex, X, st, C, hn, h => by
    obtain ⟨x, p1, p, y, q, pos, rfl, h1, h2, h3, h4⟩ := inv_ext h
    have pe := (sE k ex X y C.toCxt (fun n z => hn n (by simpa [needS] using z)) h3).1
    exact ps_weak (ps_expr (pe_one C.toCxt PySem.F.slot_list_extend PySem.F.type_list_extend mt_extend h1 h2 pe h3 h4)) fun D σ H _ q => ext_read q
  | .setI i ki ex, X, st, C, hn, h => by
    obtain ⟨x, p, y, q, z, pos, rfl, h1, h2, h3, h4, h5⟩ := inv_setI h
    have pk := (sE k ki X y C.toCxt (fun n z => hn n (by simp [needS, z])) h3).1
    have pe := (sE k ex X z C.toCxt (fun n z => hn n (by simp [needS, z])) h4).1
    have ha : ∀ v, assign (.Subscript (.Name x p) y q) X.env v = (do
      let ov ← holding [v] (eval (.Name x p) X.env)
      let iv ← holding [v, ov] (eval y X.env)
      standAt q
      holding [v, ov, iv] (setItem ov iv v)
      release [v, ov, iv] []) := fun v => by
      cases y <;> first | rfl | (cases h5; done) | (cases ki <;> simp [okE] at h3)
    exact ps_weak (ps_asg pe (pg_sub (tvar_vis h1 h2) pk set_list ha) sole_sub sto_sub rfl) fun D σ H _ q => set_read q
  | .pop i, X, st, C, hn, h => by
    obtain ⟨x, p1, p, q, pos, rfl, h1, h2, h4⟩ := inv_pop h
    exact ps_weak (ps_expr (pe_bm0 PySem.F.plainAttrs_list PySem.F.slot_list_pop PySem.F.type_list_pop mt_pop (tvar_vis h1 h2) rfl (by rw [h4]; simp))) fun D σ H _ q => pop_read q
  | .popT j i o, X, st, C, hn, h => by
    obtain ⟨z, pz, x, p1, p, l, q, pos, rfl, h1, h2, h3, h4, h5, h6⟩ := inv_popT h
    have hj := (List.getElem?_eq_some_iff.mp h1).1
    clear h
    cases o with
    | no =>
      cases l with
      | cons _ _ => cases h6
      | nil => exact ps_weak (ps_set C.nd h1 (ok_loc h2) (pe_bm0 PySem.F.plainAttrs_list PySem.F.slot_list_pop PySem.F.type_list_pop mt_pop (tvar_vis h3 h4) rfl (by rw [h5]; simp)) rfl (.inl (C.fn z))) fun D σ H _ q => popT0_read hj q
    | yes e =>
      match l, h6 with
      | [], h6 => cases h6
      | _ :: _ :: _, h6 => cases h6
      | [y], h6 =>
        have pe := (sE k e X y C.toCxt (fun n z => hn n (by simpa [needS, needO] using z)) h6).1
        exact ps_weak (ps_set C.nd h1 (ok_loc h2) (pe_one C.toCxt PySem.F.slot_list_pop PySem.F.type_list_pop mt_popAt h3 h4 pe h6 h5) rfl (.inl (C.fn z))) fun D σ H _ q => popT1_read hj q
  | .ret ex, X, st, C, hn, h => by
    cases st with
    | Return o pos =>
      cases o with
      | some y =>
        rw [okS] at h
        exact ps_weak (ps_ret (sE k ex X y C.toCxt (fun n z => hn n (by simpa [needS] using z)) h).1) fun D σ H _ q => ret_read q
      | none => simp [okS] at h
    | _ => simp [okS] at h
  | .ite c a b, X, st, C, hn, h => by
    cases st with
    | If x l r pos =>
      simp only [okS, Bool.and_eq_true] at h
      have pc := (sE k c X x C.toCxt (fun n z => hn n (by simp [needS, z])) h.1).2
      have pa := sSs k n a X l C (fun n z => hn n (by simp [needS, z])) h.2.1
      have pb := sSs k n b X r C (fun n z => hn n (by simp [needS, z])) h.2.2
      exact ps_weak (ps_if pc pa pb) fun D σ H _ q => ite_read q
    | _ => simp [okS] at h
  | .for_ i w b, X, st, C, hn, h => by
    obtain ⟨x, p, y, l, q, rfl, h1, h2, h3, h4⟩ := inv_for h
    have pw := sW k w X (.Name x p) y C.toCxt (fun n z => hn n (by simp [needS, z])) h3
    have pb := sSs k n b X l C (fun n z => hn n (by simp [needS, z])) h4
    exact ps_weak (ps_for C.own C.calm pw (pg_name C.nd h1 (ok_loc h2) (.inl (C.fn x))) pb (ok_fold h3)) fun D σ H _ q => for_read (List.getElem?_eq_some_iff.mp h1).1 q
  | .forT is w b, X, st, C, hn, h => by
    obtain ⟨t, j, p, y, l, q, rfl, h1, h3, h4⟩ := inv_forT h
    have pw := sW k w X (.Tuple t j p) y C.toCxt (fun n z => hn n (by simp [needS, z])) h3
    have pb := sSs k n b X l C (fun n z => hn n (by simp [needS, z])) h4
    exact ps_weak (ps_for C.own C.calm pw (pg_names C h1) pb (ok_fold h3)) fun D σ H _ q => forT_read (ns_lt h1) q
  | .whl c b, X, st, C, hn, h => by
    obtain ⟨x, l, q, rfl, h1, h2⟩ := inv_whl h
    have pc := (sE k c X x C.toCxt (fun n z => hn n (by simp [needS, z])) h1).2
    have pb := sSs k n b X l C (fun n z => hn n (by simp [needS, z])) h2
    exact ps_weak (ps_while C.own pc pb) fun D σ H _ q => whl_read q
  | .brk, X, st, C, hn, h => by
    cases st with
    | Break pos =>
      refine ps_weak ps_break fun D σ H _ q => ?_
      obtain ⟨hd0, H0, pa0, pa, ow, env, pl, fl, env', pl', r, e1, en⟩ := q
      rw [evS] at e1
      cases e1
      exact en _ _ _ _ r
    | _ => simp [okS] at h
  | .cnt, X, st, C, hn, h => by
    cases st with
    | Continue pos =>
      refine ps_weak ps_continue fun D σ H _ q => ?_
      obtain ⟨hd0, H0, pa0, pa, ow, env, pl, fl, env', pl', r, e1, en⟩ := q
      rw [evS] at e1
      cases e1
      exact en _ _ _ _ r
    | _ => simp [okS] at h
  | .pass, X, st, C, hn, h => by
    cases st with
    | Pass pos =>
      refine ps_weak ps_pass fun D σ H _ q => ?_
      obtain ⟨hd0, H0, pa0, pa, ow, env, pl, fl, env', pl', r, e1, en⟩ := q
      rw [evS] at e1
      cases e1
      exact en _ _ _ _ r
    | _ => simp [okS] at h
theorem sSs (k n : Nat) : ∀ (ss : Sts) (X : Cx) (l : List Stmt), CxS k X → (∀ n ∈ needSs ss, NeedX k X n) → okSs X.N X.env.scope ss l = true → PSs X l (RSs X.K X.N.length n ss)
  | .nil, X, [], C, hn, h => ⟨fun pins s σ H D I hq => pss_nil.run pins s σ H D I (by
      obtain ⟨hd0, H0, pa0, pa, ow, env, pl, fl, env', pl', r, e1, en⟩ := hq
      rw [evSs] at e1
      cases e1
      exact en _ _ _ _ r)⟩
  | .nil, X, _ :: _, C, hn, h => by simp [okSs] at h
  | .cons _ _, X, [], C, hn, h => by simp [okSs] at h
  | .cons s ss, X, x :: l, C, hn, h => by
    rw [okSs, Bool.and_eq_true] at h
    have p1 := sS k n s X x C (fun n z => hn n (by simp [needSs, z])) h.1
    have p2 := sSs k n ss X l C (fun n z => hn n (by simp [needSs, z])) h.2
    refine ⟨fun pins s σ H D I hq => (pss_cons p1 p2).run pins s σ H D I ?_⟩
    obtain ⟨hd0, H0, pa0, pa, ow, env, pl, fl, env', pl', r, e1, en⟩ := hq
    rw [evSs] at e1
    obtain ⟨⟨f, env2, pl2⟩, eb, e1⟩ := Option.bind_eq_some_iff.mp e1
    cases f with
    | nx => exact ⟨hd0, H0, pa0, pa, ow, env, pl, .nx, env2, pl2, r, eb, fun σ' H' pa' ow' r' => ⟨hd0, H0, pa0, pa', ow', env2, pl2, fl, env', pl', r', e1, en⟩⟩
    | ct => cases e1; exact ⟨hd0, H0, pa0, pa, ow, env, pl, .ct, _, _, r, eb, en⟩
    | bk => cases e1; exact ⟨hd0, H0, pa0, pa, ow, env, pl, .bk, _, _, r, eb, en⟩
    | rt d => cases e1; exact ⟨hd0, H0, pa0, pa, ow, env, pl, .rt d, _, _, r, eb, en⟩
end
end Pu
set_option Elab.async false
set_option linter.all false
set_option maxRecDepth 100000
set_option maxHeartbeats 1000000
namespace Pu
open PySem PySem.Spec PyProof.Rows L2

/-! ### a def by its body -/
def iniE (L : Nat) (p : Bool) (ds : List D) : Env := (if p = true then [Slot.pool] else []) ++ (ds.map Slot.val ++ List.replicate (L - (ds.length + if p = true then 1 else 0)) Slot.none)
def finD : Fl × Env × Pool → Option (D × Pool)
  | (.nx, _, pl) => some (.non, pl)
  | (.rt d, _, pl) => some (d, pl)
  | _ => none
def evD (n : Nat) (b : Sts) (L : Nat) (p : Bool) (ds : List D) (pl : Pool) : Option (D × Pool) := (evSs n b (iniE L p ds) pl).bind finD
section
variable {P : Program} {w : World} {K : PySem.W.Frag} {mg : Str → Option Value} {base : Heap} {x qual : Str} {params : Arguments} {body : List Stmt} {scope : Scope} {f : Addr} {fd : FuncData} {N ps : List Str} {k a : Nat}
theorem get_start {N : List Str} {vs : List V} {i : Nat} {v : V} (h : vs[i]? = some v) : (L2.start N vs)[i]? = some (some v) := by
  unfold L2.start
  rw [List.getElem?_append_left (by rw [List.length_map]; exact (List.getElem?_eq_some_iff.mp h).1), List.getElem?_map, h]
  rfl
theorem start_len {N : List Str} {vs : List V} (h : vs.length ≤ N.length) : (L2.start N vs).length = N.length := by
  unfold L2.start
  simp
  omega
theorem ini_val {L : Nat} {p : Bool} {ds : List D} {i : Nat} {d : D} (h : (iniE L p ds)[i]? = some (.val d)) : ∃ j, i = j + (if p = true then 1 else 0) ∧ ds[j]? = some d := by
  unfold iniE at h
  have key : ∀ j, (ds.map Slot.val ++ List.replicate (L - (ds.length + if p = true then 1 else 0)) Slot.none)[j]? = some (Slot.val d) → ds[j]? = some d := fun j h => by
    by_cases hj : j < ds.length
    · rw [List.getElem?_append_left (by simpa using hj), List.getElem?_map] at h
      obtain ⟨e, h1, h2⟩ := Option.map_eq_some_iff.mp h
      cases h2
      exact h1
    · rw [List.getElem?_append_right (by simpa using hj)] at h
      obtain ⟨h1, h2⟩ := List.getElem?_eq_some_iff.mp h
      simp at h2
  cases p with
  | true =>
    cases i with
    | zero => simp at h
    | succ i => exact ⟨i, rfl, key i (by simpa using h)⟩
  | false => exact ⟨i, rfl, key i (by simpa using h)⟩
theorem ini_pool {L : Nat} {p : Bool} {ds : List D} {i : Nat} (h : (iniE L p ds)[i]? = some .pool) : p = true ∧ i = 0 := by
  unfold iniE at h
  have key : ∀ j, (ds.map Slot.val ++ List.replicate (L - (ds.length + if p = true then 1 else 0)) Slot.none)[j]? = some Slot.pool → False := fun j h => by
    by_cases hj : j < ds.length
    · rw [List.getElem?_append_left (by simpa using hj), List.getElem?_map] at h
      obtain ⟨e, h1, h2⟩ := Option.map_eq_some_iff.mp h
      cases h2
    · rw [List.getElem?_append_right (by simpa using hj)] at h
      obtain ⟨h1, h2⟩ := List.getElem?_eq_some_iff.mp h
      simp at h2
  cases p with
  | true =>
    cases i with
    | zero => exact ⟨rfl, rfl⟩
    | succ i => exact (key i (by simpa using h)).elim
  | false => exact (key i (by simpa using h)).elim
theorem ini_own {L : Nat} {p : Bool} {ds : List D} {i : Nat} {l : List D} (h : (iniE L p ds)[i]? = some (.own l)) : False := by
  unfold iniE at h
  have key : ∀ j, (ds.map Slot.val ++ List.replicate (L - (ds.length + if p = true then 1 else 0)) Slot.none)[j]? = some (Slot.own l) → False := fun j h => by
    by_cases hj : j < ds.length
    · rw [List.getElem?_append_left (by simpa using hj), List.getElem?_map] at h
      obtain ⟨e, h1, h2⟩ := Option.map_eq_some_iff.mp h
      cases h2
    · rw [List.getElem?_append_right (by simpa using hj)] at h
      obtain ⟨h1, h2⟩ := List.getElem?_eq_some_iff.mp h
      simp at h2
  cases p with
  | true =>
    cases i with
    | zero => simp at h
    | succ i => exact key i (by simpa using h)
  | false => exact key i (by simpa using h)
theorem fin_read {L : Nat} {hd : Addr → Prop} {H : Hp} {pa : List Addr} {r : Fl × Env × Pool} {d : D} {pl' : Pool} {Q : VK} (e : finD r = some (d, pl')) (q : ∀ v H' pa', Sta H' pa' pl' → Grow pa H pa' H' → Rp K (vw H' (un hd pa')) v d → Q v H') :
    EndS K L hd H pa r.1 r.2.1 r.2.2 { nx := fun _ H' => Q .non H', rt := Q } := by
  obtain ⟨f, env, pl⟩ := r
  cases f with
  | nx => cases e; exact fun σ' H' pa' ow' r => q .non H' pa' r.sta r.grow .mnon
  | rt d => cases e; exact fun v H' pa' s g rv => q v H' pa' s g rv
  | bk => cases e
  | ct => cases e
theorem cxt_of {E : XK} {A : Around} {outer : List PySem.Env} {s : Shared} {H : Hp} {cdv : Value} (S : FnScope N ps scope) (blt : ∀ x ∈ bltNames, mg x = none) (hr : Room k (A.deeper (envOfC qual scope s.heap.objs.size f cdv))) :
    CxS k (cxOf CX0 P w K mg base N qual scope f cdv A outer s H E).nox where
  calm := rfl
  nd := S.nd
  room := hr
  blt := blt
  fn := fun _ => rfl
  kind := S.kind
  own := PassesOwn.never
theorem fn_body (F : FunD K x qual params body scope [] [] f fd) (S : FnScope N ps scope) (blt : ∀ x ∈ bltNames, mg x = none) {b : Sts} (ok : okSs N scope b body = true) (hn : ∀ m ∈ needSs b, NeedOk k P w K mg base m) {p : Bool} {G : Fnc}
    (hl : ps.length = a + if p = true then 1 else 0) (hN : ps.length ≤ N.length) (hG : ∀ ds pl d pl', ds.length = a → G ds pl = some (d, pl') → ∃ n, evD n b N.length p ds pl = some (d, pl')) : FnOk P w K mg base CX0 (k + 1) f fd ps (spOf K a G p) := by
  have hlen : ∀ {vs : List V} {H : Hp} {Q : VK} {E : XK}, spOf K a G p vs H Q E → vs.length = ps.length := fun {vs H Q E} h => by
    obtain ⟨hd, pa, pl, ds, d, pl', vs', h1, h2, h3, h4, h5, h6, _⟩ := h
    have := h6.length
    cases p with
    | true =>
      obtain ⟨q, r, _, rfl⟩ := h5
      rw [List.length_cons, hl, this, h4]
      rfl
    | false =>
      have h5 : vs = vs' := h5
      rw [h5, hl, this, h4]
      rfl
  refine F.ok S (fun vs H Q E h => hlen h) (fun cdv A outer s H vs Q E hr h => ?_)
  have hvl := hlen h
  obtain ⟨hd, pa, pl, ds, d, pl', vs', h1, h2, h3, h4, h5, h6, h7, h8⟩ := h
  obtain ⟨n, e⟩ := hG ds pl d pl' h4 h7
  refine ⟨RSs K N.length n b, PSs.nox ?_, ?_⟩
  · exact sSs k n b (cxOf CX0 P w K mg base N qual scope f cdv A outer s H E).nox body (cxt_of S blt hr) hn ok
  · obtain ⟨⟨fl, env', pl2⟩, e1, e2⟩ := Option.bind_eq_some_iff.mp e
    refine ⟨hd, H, pa, pa, fun _ => none, iniE N.length p ds, pl, fl, env', pl2, ?_, e1, fin_read e2 h8⟩
    have hvw : Le (vw H hd) (vw H (hdF hd pa fun _ => none)) := vw_anti fun b z => by
      rcases z with z | z | ⟨i, z⟩
      · exact z
      · exact h1 b z
      · cases z
    refine ⟨start_len (by rw [hvl]; exact hN), h2, h1, .refl, h3, fun i l z => (ini_own z).elim, fun i d z => ?_, fun i z => ?_, fun i j p z _ => (by cases z), fun i p z => (by cases z)⟩
    · obtain ⟨j, rfl, hj⟩ := ini_val z
      obtain ⟨v, hv, rv⟩ := h6.get hj
      refine ⟨v, get_start ?_, rv.le hvw⟩
      cases p with
      | true =>
        obtain ⟨q, r, _, rfl⟩ := h5
        simpa using hv
      | false =>
        have h5 : vs = vs' := h5
        rw [h5]
        exact hv
    · obtain ⟨rfl, rfl⟩ := ini_pool z
      obtain ⟨q, r, e1, rfl⟩ := h5
      exact ⟨q, r, e1, get_start rfl⟩
end
theorem HasF.mono {j k : Nat} {P : Program} {w : World} {K : PySem.W.Frag} {mg : Str → Option Value} {base : Heap} {f : Str} {n : Nat} {F : Fnc} {p : Bool} (h : HasF j P w K mg base f n F p) (hk : j ≤ k) : HasF k P w K mg base f n F p := by
  obtain ⟨a, fd, ps, h1, h2, h3, h4⟩ := h
  exact ⟨a, fd, ps, h1, h2, h3.mono hk, h4⟩
theorem NeedOk.mono {j k : Nat} {P : Program} {w : World} {K : PySem.W.Frag} {mg : Str → Option Value} {base : Heap} {m : Need} (h : NeedOk j P w K mg base m) (hk : j ≤ k) : NeedOk k P w K mg base m := by
  cases m with
  | fn f n F p => exact HasF.mono h hk
  | gl x d => exact h
end Pu
set_option Elab.async false
set_option linter.all false
set_option maxRecDepth 100000
set_option maxHeartbeats 1000000
namespace Pu
open PySem PySem.Spec PyProof.Rows L2

/-! ### one draw of the pool -/
def F_pick : Fnc := fun ds pl => match ds, pl with
  | [.int amt], some ps => if 0 < ps.rows.length ∧ ps.rows.length < 1073741824 ∧ ps.at_ < 2 ^ 60 ∧ 0 < amt then
      (ps.rows[ps.at_ % ps.rows.length]?).map fun x => (.int ((x + ((ps.at_ / ps.rows.length : Nat) : Int) * 1009 + ((ps.at_ / ps.rows.length : Nat) : Int) * (ps.at_ : Int)) % amt), some { ps with at_ := ps.at_ + 1 }) else none
  | _, _ => none
section
variable {P : Program} {w : World} {K : PySem.W.Frag} {mg : Str → Option Value} {base : Heap} {f : Addr} {fd : FuncData} {scope : Scope} {params : Arguments} {body : List Stmt}
abbrev rInt : List V → Hp → VK → Prop := fun xs H Q => (∃ i, xs = [.int i] ∧ Q (.int i) H) ∨ ∃ k, xs = [.bl k] ∧ Q (.int (if k then 1 else 0)) H
abbrev rLn (K : PySem.W.Frag) : List V → Hp → VK → Prop := fun xs H Q => ∃ x n, xs = [x] ∧ LenV K x H n ∧ Q (.int n) H
def t_pick (K : PySem.W.Frag) : TS :=
  tSeq (tAsg (tOp (rIxL K) (tOp (rIxL K) (tVar 0) (tC (.int 1))) (tC (.int 0))) (gName 2))
  (tSeq (tAsg (tOp (rI0 fun i j => .int (i + j)) (tVar 2) (tC (.int 1))) (gSub (tOp (rIxL K) (tVar 0) (tC (.int 1))) (tC (.int 0)) rSetL))
  (tSeq (tAsg (tOp (rI CDiv fun i j => .int (i / j)) (tVar 2) (tCB (rLn K) (tCons (tOp (rIxL K) (tVar 0) (tC (.int 0))) tNil))) (gName 3))
  (tRet (tOp (rI (fun _ j => 0 < j) fun i j => .int (i % j))
    (tCB rInt (tCons (tOp (rI0 fun i j => .int (i + j)) (tOp (rI0 fun i j => .int (i + j))
      (tOp (rIxL K) (tOp (rIxL K) (tVar 0) (tC (.int 0))) (tOp (rI (fun _ j => 0 < j) fun i j => .int (i % j)) (tVar 2) (tCB (rLn K) (tCons (tOp (rIxL K) (tVar 0) (tC (.int 0))) tNil))))
      (tOp (rI CMul fun i j => .int (i * j)) (tVar 3) (tC (.int 1009)))) (tOp (rI CMul fun i j => .int (i * j)) (tVar 3) (tVar 2))) tNil)) (tVar 1)))))
theorem pss_pick {X : Cx} {p0 p1 p2 p3 p4 p5 p6 p7 p8 p9 p10 p11 p12 p13 p14 p15 p16 p17 p18 p19 p20 p21 p22 p23 p24 p25 p26 p27 p28 p29 p30 p31 p32 p33 p34 p35 p36 p37 p38 p39 p40 p41 p42 p43 p44 p45 p46 p47 p48 : Pos} (C : Cxt 0 X) (fn : ∀ x, X.fn x = true) (h0 : X.N[0]? = some ("pool" : Str)) (h1 : X.N[1]? = some ("amount" : Str)) (h2 : X.N[2]? = some ("at" : Str)) (h3 : X.N[3]? = some ("turn" : Str))
    (v0 : Loc X.env.scope "pool") (v1 : Loc X.env.scope "amount") (v2 : Loc X.env.scope "at") (v3 : Loc X.env.scope "turn") (g1 : Gl X "len") (g2 : Gl X "int") :
    PSs X [.Assign [.Name "at" p0] (.Subscript (.Subscript (.Name "pool" p1) (.Constant (.int 1) 0 p2) p3) (.Constant (.int 0) 0 p4) p5) p6,
    .Assign [.Subscript (.Subscript (.Name "pool" p7) (.Constant (.int 1) 0 p8) p9) (.Constant (.int 0) 0 p10) p11] (.BinOp (.Name "at" p12) .Add (.Constant (.int 1) 0 p13) p14) p15,
    .Assign [.Name "turn" p16] (.BinOp (.Name "at" p17) .FloorDiv (.Call (.Name "len" p18) [.Subscript (.Name "pool" p19) (.Constant (.int 0) 0 p20) p21] [] p22) p23) p24,
    .Return (some (.BinOp (.Call (.Name "int" p25) [.BinOp (.BinOp (.Subscript (.Subscript (.Name "pool" p26) (.Constant (.int 0) 0 p27) p28) (.BinOp (.Name "at" p29) .Mod (.Call (.Name "len" p30) [.Subscript (.Name "pool" p31) (.Constant (.int 0) 0 p32) p33] [] p34) p35) p36) .Add
      (.BinOp (.Name "turn" p37) .Mult (.Constant (.int 1009) 0 p38) p39) p40) .Add (.BinOp (.Name "turn" p41) .Mult (.Name "at" p42) p43) p44] [] p45) .Mod (.Name "amount" p46) p47)) p48] (t_pick X.K) := by
  have lv : ∀ {x : Str}, Loc X.env.scope x → Vis X.env.scope x := fun h => h.elim .inl fun z => .inr (.inl z)
  have m1 : X.mg "len" = none := C.blt _ (by simp [bltNames])
  have m2 : X.mg "int" = none := C.blt _ (by simp [bltNames])
  have pool : ∀ {p}, PE X (.Name "pool" p) (tVar 0) := pe_var h0 (lv v0)
  have at_ : ∀ {p}, PE X (.Name "at" p) (tVar 2) := pe_var h2 (lv v2)
  have turn : ∀ {p}, PE X (.Name "turn" p) (tVar 3) := pe_var h3 (lv v3)
  have row : ∀ {p k p2 p3}, PE X (.Subscript (.Name "pool" p) (.Constant (.int 0) k p2) p3) (tOp (rIxL X.K) (tVar 0) (tC (.int 0))) := pe_ix ix_list pool pe_int fun _ _ => rfl
  have one : ∀ {p k p2 p3}, PE X (.Subscript (.Name "pool" p) (.Constant (.int 1) k p2) p3) (tOp (rIxL X.K) (tVar 0) (tC (.int 1))) := pe_ix ix_list pool pe_int fun _ _ => rfl
  have ln : ∀ {p p1 k p2 p3 p4}, PE X (.Call (.Name "len" p1) [.Subscript (.Name "pool" p) (.Constant (.int 0) k p2) p3] [] p4) (tCB (rLn X.K) (tCons (tOp (rIxL X.K) (tVar 0) (tC (.int 0))) tNil)) := pe_callB call_len g1 m1 boot_len (pa_cons row pa_nil)
  refine pss_cons (ps_set C.nd h2 v2 (pe_ix ix_list one pe_int fun _ _ => rfl) rfl (.inl (fn _))) ?_
  refine pss_cons (ps_asg (pe_op op_add at_ pe_int) (pg_sub one pe_int set_list)) ?_
  refine pss_cons (ps_set C.nd h3 v3 (pe_op op_fdiv at_ ln) rfl (.inl (fn _))) ?_
  exact pss_one (ps_ret (pe_op op_mod (pe_callTy call_int1 g2 m2 (by decide +kernel) (pa_cons (pe_op op_add (pe_op op_add (pe_ix ix_list row (pe_op op_mod at_ ln) fun _ _ => rfl) (pe_op op_mul turn pe_int)) (pe_op op_mul turn at_)) pa_nil)) (pe_var h1 (lv v1))))
def nPick : List Str := ["pool", "amount", "at", "turn"]
theorem pure_pick {vs : List V} {H : Hp} {Q : VK} {E : XK} (h : spOf K 1 F_pick true vs H Q E) : t_pick K { nx := fun _ H' => Q .non H', rt := Q } (L2.start nPick vs) H := by
  obtain ⟨hd, pa, pl, ds, d, pl', vs', h1, h2, h3, h4, h5, h6, h7, h8⟩ := h
  rw [if_pos rfl] at h5
  obtain ⟨q, r, rfl, rfl⟩ := h5
  obtain ⟨d0, rfl⟩ : ∃ d0, ds = [d0] := by
    match ds, h4 with
    | [d0], _ => exact ⟨d0, rfl⟩
  cases pl with
  | none => cases d0 <;> cases h7
  | some ps =>
    cases d0 with
    | int amt =>
      obtain ⟨p0, r0, a0, e0, nra, hp, hr, ha⟩ := h3
      cases e0
      obtain ⟨x, rfl, rx⟩ := one_of h6
      cases rx.int
      simp only [F_pick] at h7
      split at h7
      · rename_i hc
        obtain ⟨c1, c2, c3, c4⟩ := hc
        obtain ⟨x, hx, e7⟩ := Option.map_eq_some_iff.mp h7
        cases e7
        have nqr : q ≠ r0 := fun z => by
          rw [z, hr] at hp
          have := Option.some.inj hp
          injection this with this
          cases hrow : ps.rows with
          | nil => rw [hrow] at c1; simp at c1
          | cons a b => rw [hrow] at this; injection this with t1 _; cases t1
        have nqa : q ≠ a0 := fun z => by
          rw [z, ha] at hp
          have := Option.some.inj hp
          injection this with this
          injection this with t1 _
          cases t1
        have s0 : (L2.start nPick [.ref q, .int amt])[0]? = some (some (.ref q)) := rfl
        have s1 : (L2.start nPick [.ref q, .int amt])[1]? = some (some (.int amt)) := rfl
        have l4 : (L2.start nPick [.ref q, .int amt]).length = 4 := rfl
        generalize L2.start nPick [.ref q, .int amt] = σ at s0 s1 l4 ⊢
        have hq1 : atI [V.ref r0, V.ref a0] 1 = some (.ref a0) := rfl
        have hq0 : atI [V.ref r0, V.ref a0] 0 = some (.ref r0) := rfl
        refine ⟨_, s0, ⟨q, _, 1, _, rfl, rfl, .of hp, hq1, a0, _, 0, _, rfl, rfl, .of ha, rfl, ?_⟩⟩
        refine ⟨_, by rw [List.getElem?_set_self (by omega)], _, _, rfl, rfl, ?_⟩
        refine ⟨_, by rw [List.getElem?_set_ne (by omega)]; exact s0, q, _, 1, _, rfl, rfl, .of hp, hq1, ?_⟩
        refine ⟨a0, _, 0, 0, rfl, rfl, ha, rfl, ?_⟩
        generalize hH : upd H a0 (.lst ([V.int (ps.at_ : Int)].set 0 (.int ((ps.at_ : Int) + 1)))) = H1
        have hp1 : H1 q = some (.lst [.ref r0, .ref a0]) := by rw [← hH, upd_ne nqa]; exact hp
        have hr1 : H1 r0 = some (.lst (ps.rows.map V.int)) := by rw [← hH, upd_ne nra]; exact hr
        have ha1 : H1 a0 = some (.lst [.int ((ps.at_ + 1 : Nat) : Int)]) := by rw [← hH, upd_same]; rfl
        have ln : LenV K (.ref r0) H1 ps.rows.length := .inl ⟨_, .of hr1, by rw [List.length_map]⟩
        have e1 : (ps.at_ : Int) / (ps.rows.length : Int) = ((ps.at_ / ps.rows.length : Nat) : Int) := by omega
        have e2 : (ps.at_ : Int) % (ps.rows.length : Int) = ((ps.at_ % ps.rows.length : Nat) : Int) := by omega
        have lt : ps.at_ % ps.rows.length < ps.rows.length := Nat.mod_lt _ c1
        refine ⟨_, by rw [List.getElem?_set_self (by omega)], _, by rw [List.getElem?_set_ne (by omega)]; exact s0, q, _, 0, _, rfl, rfl, .of hp1, hq0, ?_⟩
        refine ⟨_, _, rfl, ln, _, _, rfl, rfl, ⟨by omega, by omega⟩, ?_⟩
        show gName 3 (V.int ((ps.at_ : Int) / (ps.rows.length : Int))) _ _ _
        rw [e1]
        have t0 : ((σ.set 2 (some (V.int (ps.at_ : Int)))).set 3 (some (V.int ((ps.at_ / ps.rows.length : Nat) : Int))))[0]? = some (some (.ref q)) := by
          rw [List.getElem?_set_ne (by omega), List.getElem?_set_ne (by omega)]; exact s0
        have t1 : ((σ.set 2 (some (V.int (ps.at_ : Int)))).set 3 (some (V.int ((ps.at_ / ps.rows.length : Nat) : Int))))[1]? = some (some (.int amt)) := by
          rw [List.getElem?_set_ne (by omega), List.getElem?_set_ne (by omega)]; exact s1
        have t2 : ((σ.set 2 (some (V.int (ps.at_ : Int)))).set 3 (some (V.int ((ps.at_ / ps.rows.length : Nat) : Int))))[2]? = some (some (.int (ps.at_ : Int))) := by
          rw [List.getElem?_set_ne (by omega), List.getElem?_set_self (by omega)]
        have t3 : ((σ.set 2 (some (V.int (ps.at_ : Int)))).set 3 (some (V.int ((ps.at_ / ps.rows.length : Nat) : Int))))[3]? = some (some (.int ((ps.at_ / ps.rows.length : Nat) : Int))) := by
          rw [List.getElem?_set_self (by rw [List.length_set]; omega)]
        have dl : ((ps.at_ / ps.rows.length : Nat) : Int) < 2 ^ 64 := by
          have : ps.at_ / ps.rows.length ≤ ps.at_ := Nat.div_le_self _ _
          omega
        have cm : ∀ j : Int, CMul ((ps.at_ / ps.rows.length : Nat) : Int) j := fun j => .inl ⟨Int.lt_of_lt_of_le (by decide) (Int.natCast_nonneg _), dl⟩
        have hat : atI (ps.rows.map V.int) ((ps.at_ % ps.rows.length : Nat) : Int) = some (.int x) := by
          unfold atI ixN
          rw [if_pos (by omega), if_pos (by rw [List.length_map]; omega)]
          show (ps.rows.map V.int)[(((ps.at_ % ps.rows.length : Nat) : Int)).toNat]? = _
          rw [Int.toNat_natCast, List.getElem?_map, hx]
          rfl
        refine ⟨_, t0, q, _, 0, _, rfl, rfl, .of hp1, hq0, _, t2, _, t0, q, _, 0, _, rfl, rfl, .of hp1, hq0, _, _, rfl, ln, _, _, rfl, rfl, by omega, ?_⟩
        refine ⟨r0, _, ((ps.at_ : Int) % (ps.rows.length : Int)), _, rfl, rfl, .of hr1, by rw [e2]; exact hat, _, t3, _, _, rfl, rfl, cm _, _, _, rfl, rfl, _, t3, _, t2, _, _, rfl, rfl, cm _, _, _, rfl, rfl, .inl ⟨_, rfl, _, t1, _, _, rfl, rfl, c4, ?_⟩⟩
        refine h8 _ _ [q, r0, a0] ⟨q, r0, a0, rfl, nra, hp1, hr1, ha1⟩ ⟨fun b o n h => ⟨n, ?_⟩, fun _ => rfl⟩ (.mint _)
        rw [← hH, upd_ne (fun z => n (by rw [z]; simp))]
        exact h
      · cases h7
    | _ => cases h7
end
end Pu
set_option Elab.async false
set_option linter.all false
set_option maxRecDepth 100000
set_option maxHeartbeats 1000000
namespace Pu
open PySem PySem.Spec PyProof.Rows L2

/-! ### the pool is made -/
structure Rows80 (rows : List Int) : Prop where
  pos : 0 < rows.length
  most : rows.length ≤ 80
  all : ∀ x ∈ rows, 0 ≤ x ∧ x < 4096
def spPool (K : PySem.W.Frag) : Sp := fun vs H Q _ => ∃ (l : Addr) (ns : List Int), vs = [.ref l] ∧ SqL K H l (ns.map V.int) ∧ ns.length ≤ sizeLine ∧
  ∀ (rows : List Int) (p r a : Addr) (H' : Hp), Rows80 rows → r ≠ a → (∀ b o, H b = some o → H' b = some o) → H' p = some (.lst [.ref r, .ref a]) → H' r = some (.lst (rows.map V.int)) → H' a = some (.lst [.int 0]) → Q (.ref p) H'
/-- what is wanted of the draws -/
def DrawsOk (F : Fnc) : Prop := ∀ c : Int, ∃ l : List Int, l.length = 20 ∧ (∀ x ∈ l, 0 ≤ x ∧ x < 4096) ∧ F [.int c, .int 20] none = some (.lst (l.map .int), none)
section
variable {P : Program} {w : World} {K : PySem.W.Frag} {mg : Str → Option Value} {base : Heap}
def nPool : List Str := ["script", "rows", "k"]
def t_pool (K : PySem.W.Frag) (F : Fnc) : TS :=
  tSeq (tAsg (tLst tNil) (gName 1))
  (tSeq (tFor (iRng1 (tCons (tCB (fun xs H Q => ∃ i j, xs = [.int i, .int j] ∧ Q (.int (if j < i then j else i)) H) (tCons (tC (.int 4)) (tCons (tCB (fun xs H Q => ∃ i j, xs = [.int i, .int j] ∧ Q (.int (if j > i then j else i)) H) (tCons (tC (.int 1)) (tCons (tCB (rLn K) (tCons (tVar 0) tNil)) tNil))) tNil))) tNil)) (gName 2)
    (tAsg (tOp rCat (tVar 1) (tCall (spOf K 2 F false) [] E0 (tCons (tOp (rI0 fun i j => .int (i + j)) (tCall (spCell K) [] E0 (tCons (tVar 0) (tCons (tVar 2) tNil))) (tOp (rI CMul fun i j => .int (i * j)) (tC (.int 7)) (tVar 2))) (tCons (tC (.int 20)) tNil)))) (gName 1)))
  (tRet (tLst (tCons (tVar 1) (tCons (tLst (tCons (tC (.int 0)) tNil)) tNil)))))
theorem pss_pool {X : Cx} {j : Nat} {F : Fnc} {fc fd : Addr} {dc dd : FuncData} {pc pd : List Str} {p0 p1 p2 p3 p4 p5 p6 p7 p8 p9 p10 p11 p12 p13 p14 p15 p16 p17 p18 p19 p20 p21 p22 p23 p24 p25 p26 p27 p28 p29 p30 p31 p32 p33 p34 p35 : Pos} (C : Cxt j X) (fn : ∀ x, X.fn x = true) (ow : PassesOwn (model X.prog X.w) X.A X.env X.xe) (hN : X.N = nPool)
    (v0 : Loc X.env.scope "script") (v1 : Loc X.env.scope "rows") (v2 : Loc X.env.scope "k") (g1 : Gl X "len") (g2 : Gl X "min") (g3 : Gl X "max") (g4 : Gl X "range") (g5 : Gl X "_law_cell") (g6 : Gl X "_law_draws")
    (Fc : FnOk X.prog X.w X.K X.mg X.base CX0 j fc dc pc (spCell X.K)) (hc : X.mg "_law_cell" = some (.ref fc)) (kc : PySem.W.keepIn X.K (.ref fc) = true) (bc : Binds X.K dc pc [])
    (Fd : FnOk X.prog X.w X.K X.mg X.base CX0 j fd dd pd (spOf X.K 2 F false)) (hd : X.mg "_law_draws" = some (.ref fd)) (kd : PySem.W.keepIn X.K (.ref fd) = true) (bd : Binds X.K dd pd []) :
    PSs X [.Assign [.Name "rows" p0] (.List [] p1) p2,
      .For (.Name "k" p3) (.Call (.Name "range" p4) [.Call (.Name "min" p5) [.Constant (.int 4) 0 p6, .Call (.Name "max" p7) [.Constant (.int 1) 0 p8, .Call (.Name "len" p9) [.Name "script" p10] [] p11] [] p12] [] p13] [] p14)
        [.Assign [.Name "rows" p15] (.BinOp (.Name "rows" p16) .Add (.Call (.Name "_law_draws" p17) [.BinOp (.Call (.Name "_law_cell" p18) [.Name "script" p19, .Name "k" p20] [] p21) .Add (.BinOp (.Constant (.int 7) 0 p22) .Mult (.Name "k" p23) p24) p25, .Constant (.int 20) 0 p26] [] p27) p28) p29] [] p30,
      .Return (some (.List [.Name "rows" p31, .List [.Constant (.int 0) 0 p32] p33] p34)) p35] (t_pool X.K F) := by
  have h0 : X.N[0]? = some ("script" : Str) := by rw [hN]; rfl
  have h1 : X.N[1]? = some ("rows" : Str) := by rw [hN]; rfl
  have h2 : X.N[2]? = some ("k" : Str) := by rw [hN]; rfl
  have lv : ∀ {x : Str}, Loc X.env.scope x → Vis X.env.scope x := fun h => h.elim .inl fun z => .inr (.inl z)
  have mm : ∀ x ∈ bltNames, X.mg x = none := C.blt
  have e0 : ∀ {p}, PE X (.Name "script" p) (tVar 0) := pe_var h0 (lv v0)
  have e1 : ∀ {p}, PE X (.Name "rows" p) (tVar 1) := pe_var h1 (lv v1)
  have e2 : ∀ {p}, PE X (.Name "k" p) (tVar 2) := pe_var h2 (lv v2)
  refine pss_cons (ps_set C.nd h1 v1 (pe_lst pa_nil) rfl (.inl (fn _))) ?_
  refine pss_cons (ps_for ow C.calm (pi_range1 g4 (mm _ (by simp [bltNames])) (pa_cons (pe_callB (call_min2 C.calm) g2 (mm _ (by simp [bltNames])) (by decide +kernel) (pa_cons pe_int (pa_cons (pe_callB (call_max2 C.calm) g3 (mm _ (by simp [bltNames])) (by decide +kernel)
    (pa_cons pe_int (pa_cons (pe_callB call_len g1 (mm _ (by simp [bltNames])) boot_len (pa_cons e0 pa_nil)) pa_nil))) pa_nil))) pa_nil)) (pg_name C.nd h2 v2 (.inl (fn _))) (pss_one (ps_set C.nd h1 v1 (pe_op op_cat e1
      (pe_call Fd C.room g6 hd kd bd .nil pass0 (pa_cons (pe_op op_add (pe_call Fc C.room g5 hc kc bc .nil pass0 (pa_cons e0 (pa_cons e2 pa_nil))) (pe_op op_mul pe_int e2)) (pa_cons pe_int pa_nil)))) rfl (.inl (fn _))))) ?_
  exact pss_one (ps_ret (pe_lst (pa_cons e1 (pa_cons (pe_lst (pa_cons pe_int pa_nil)) pa_nil))))
theorem ints_rep {F : Hp} : ∀ {l : List Int} {xs : List V}, Rps K F xs (l.map D.int) → xs = l.map V.int
  | [], xs, h => h.inv_nil
  | a :: l, xs, h => by
    obtain ⟨x, ys, rfl, r1, r2⟩ := h.inv_cons
    rw [r1.int, ints_rep r2]
    rfl
theorem pure_pool {F : Fnc} (hF : DrawsOk F) {vs : List V} {H : Hp} {Q : VK} {E : XK} (h : spPool K vs H Q E) : t_pool K F { nx := fun _ H' => Q .non H', rt := Q } (L2.start nPool vs) H := by
  obtain ⟨l, ns, rfl, hs, hz, hq⟩ := h
  refine ⟨by decide, fun r0 hr0 => ?_⟩
  have s0 : (L2.start nPool [.ref l])[0]? = some (some (.ref l)) := rfl
  have l3 : (L2.start nPool [.ref l]).length = 3 := rfl
  generalize L2.start nPool [.ref l] = σ at s0 l3 ⊢
  have hs1 : SqL K (upd H r0 (.lst [])) l (ns.map V.int) := by
    rcases hs with z | z
    · exact .inl (by
        have ne : l ≠ r0 ∨ True := .inr trivial
        exact Rd.le (fun b o h => by rw [upd_ne (ne_of_none h hr0)]; exact h) z)
    · exact .inr z
  refine ⟨_, (by rw [List.getElem?_set_ne (by omega)]; exact s0), .ref l, ns.length, rfl, .inl ⟨_, hs1, by rw [List.length_map]⟩, _, _, rfl, _, _, rfl, ?_⟩
  generalize hn : (if (if ((ns.length : Nat) : Int) > 1 then ((ns.length : Nat) : Int) else 1) < 4 then (if ((ns.length : Nat) : Int) > 1 then ((ns.length : Nat) : Int) else 1) else 4) = n
  have hn1 : 1 ≤ n ∧ n ≤ 4 := by
    rw [← hn]
    repeat' split
    all_goals omega
  refine ⟨n, rfl, by omega, by omega, ?_⟩
  have lt : ∀ {i : Nat}, i < n.toNat → (i : Int) < 2 ^ 64 := by omega
  refine for_range (fun i σ H1 => (∀ b o, H b = some o → H1 b = some o) ∧ σ.length = 3 ∧ σ[0]? = some (some (.ref l)) ∧ ∃ r rows, σ[1]? = some (some (.ref r)) ∧ H1 r = some (.lst (rows.map V.int)) ∧ rows.length = 20 * i ∧ ∀ x ∈ rows, 0 ≤ x ∧ x < 4096)
    ⟨fun b o h => by rw [upd_ne (ne_of_none h hr0)]; exact h, by rw [List.length_set]; exact l3, by rw [List.getElem?_set_ne (by omega)]; exact s0, r0, [], by rw [List.getElem?_set_self (by omega)], upd_same, rfl, fun x hx => by cases hx⟩ ?_ ?_
  · rintro i σ H1 hi ⟨le, l3, s0, r, rows, s1, hr, hl, ha⟩
    have hs2 : SqL K H1 l (ns.map V.int) := by
      rcases hs with z | z
      · exact .inl (Rd.le le z)
      · exact .inr z
    have e0 : (0 : Int) + (i : Int) = (i : Int) := by omega
    refine ⟨_, by rw [List.getElem?_set_ne (by omega)]; exact s1, ?_⟩
    obtain ⟨dl, d1, d2, d3⟩ := hF (cellOf ns i + 7 * (i : Int))
    refine ⟨_, by rw [List.getElem?_set_ne (by omega)]; exact s0, _, by rw [List.getElem?_set_self (by omega)], l, ns, i, by rw [e0]; rfl, hs2, _, by rw [List.getElem?_set_self (by omega)], 7, (0 + (i : Int)), rfl, rfl, .inl ⟨by decide, by decide⟩, _, _, rfl, rfl, ?_⟩
    refine ⟨fun _ => False, [], none, [.int (cellOf ns i + 7 * (0 + (i : Int))), .int 20], _, none, _, (fun b hb => by cases hb), (fun b hb => hb.elim), rfl, rfl, rfl, .cons (.mint _) (.cons (.mint _) .nil), by rw [e0]; exact d3, fun v H2 pa2 s2 g2 rv => ?_⟩
    obtain ⟨q, xs, rfl, hq2, rx⟩ := rv.lst
    have hq2 := (vw_some hq2).2
    have hx := ints_rep rx
    subst hx
    have le2 : ∀ b o, H1 b = some o → H2 b = some o := fun b o h => (g2.keep b o (by simp) h).2
    refine ⟨r, q, _, _, rfl, rfl, le2 _ _ hr, hq2, by rw [List.length_map, List.length_map, hl, d1]; have : sizeLine = 16777216 := rfl; omega, fun p hp => ?_⟩
    refine ⟨fun b o h => by rw [upd_ne (ne_of_none (le2 b o (le b o h)) hp)]; exact le2 b o (le b o h), by rw [List.length_set, List.length_set]; exact l3, by rw [List.getElem?_set_ne (by omega), List.getElem?_set_ne (by omega)]; exact s0, p, rows ++ dl,
      by rw [List.getElem?_set_self (by rw [List.length_set]; omega)], by rw [upd_same, List.map_append], by rw [List.length_append, hl, d1]; omega, fun x hx => (List.mem_append.mp hx).elim (ha x) (d2 x)⟩
  · rintro σ H1 ⟨le, l3, s0, r, rows, s1, hr, hl, ha⟩
    refine ⟨_, s1, by decide, fun a0 ha0 => ⟨show 2 ≤ sizeLine by decide, fun p hp => ?_⟩⟩
    have nra : r ≠ a0 := ne_of_none hr ha0
    have hr2 : upd H1 a0 (.lst [V.int 0]) r = some (.lst (rows.map V.int)) := by rw [upd_ne nra]; exact hr
    refine hq rows p r a0 _ ⟨by omega, by omega, ha⟩ nra (fun b o h => ?_) upd_same (by rw [upd_ne (ne_of_none hr2 hp)]; exact hr2) (by rw [upd_ne (ne_of_none upd_same hp), upd_same])
    have h1 := le b o h
    have h2 : upd H1 a0 (.lst [V.int 0]) b = some o := by rw [upd_ne (ne_of_none h1 ha0)]; exact h1
    rw [upd_ne (ne_of_none h2 hp)]
    exact h2
end
end Pu
set_option Elab.async false
set_option linter.all false
set_option maxRecDepth 100000
set_option maxHeartbeats 1000000
namespace Pu
open PySem PySem.Spec PyProof.Rows L2

section
variable {P : Program} {w : World} {K : PySem.W.Frag} {mg : Str → Option Value} {base : Heap} {x qual : Str} {params : Arguments} {scope : Scope} {f : Addr} {fd : FuncData} {k : Nat}
def glS (sc : Scope) (l : List Str) : Bool := l.all fun x => sc.names.lookup x == some .globalImplicit
theorem glS_ok {sc : Scope} {l : List Str} (h : glS sc l = true) {x : Str} (hx : x ∈ l) : sc.names.lookup x = some .globalImplicit := eq_of_beq (List.all_eq_true.mp h x hx)
def loS (sc : Scope) (l : List Str) : Bool := l.all fun x => locB sc x
theorem loS_ok {sc : Scope} {l : List Str} (h : loS sc l = true) {x : Str} (hx : x ∈ l) : Loc sc x := ok_loc (List.all_eq_true.mp h x hx)
theorem fn_pick {p0 p1 p2 p3 p4 p5 p6 p7 p8 p9 p10 p11 p12 p13 p14 p15 p16 p17 p18 p19 p20 p21 p22 p23 p24 p25 p26 p27 p28 p29 p30 p31 p32 p33 p34 p35 p36 p37 p38 p39 p40 p41 p42 p43 p44 p45 p46 p47 p48 : Pos} (F : FunD K x qual params [.Assign [.Name "at" p0] (.Subscript (.Subscript (.Name "pool" p1) (.Constant (.int 1) 0 p2) p3) (.Constant (.int 0) 0 p4) p5) p6,
    .Assign [.Subscript (.Subscript (.Name "pool" p7) (.Constant (.int 1) 0 p8) p9) (.Constant (.int 0) 0 p10) p11] (.BinOp (.Name "at" p12) .Add (.Constant (.int 1) 0 p13) p14) p15,
    .Assign [.Name "turn" p16] (.BinOp (.Name "at" p17) .FloorDiv (.Call (.Name "len" p18) [.Subscript (.Name "pool" p19) (.Constant (.int 0) 0 p20) p21] [] p22) p23) p24,
    .Return (some (.BinOp (.Call (.Name "int" p25) [.BinOp (.BinOp (.Subscript (.Subscript (.Name "pool" p26) (.Constant (.int 0) 0 p27) p28) (.BinOp (.Name "at" p29) .Mod (.Call (.Name "len" p30) [.Subscript (.Name "pool" p31) (.Constant (.int 0) 0 p32) p33] [] p34) p35) p36) .Add
      (.BinOp (.Name "turn" p37) .Mult (.Constant (.int 1009) 0 p38) p39) p40) .Add (.BinOp (.Name "turn" p41) .Mult (.Name "at" p42) p43) p44] [] p45) .Mod (.Name "amount" p46) p47)) p48] scope [] [] f fd) (S : FnScope nPick ["pool", "amount"] scope) (blt : ∀ x ∈ bltNames, mg x = none) (lo : loS scope nPick = true) (gl : glS scope ["len", "int"] = true) :
    FnOk P w K mg base CX0 1 f fd ["pool", "amount"] (spOf K 1 F_pick true) := by
  refine F.ok S (fun vs H Q E h => ?_) (fun cdv A outer s H vs Q E hr h => ⟨t_pick K, PSs.nox ?_, pure_pick h⟩)
  · obtain ⟨hd, pa, pl, ds, d, pl', vs', h1, h2, h3, h4, h5, h6, _⟩ := h
    rw [if_pos rfl] at h5
    obtain ⟨q, r, _, rfl⟩ := h5
    rw [List.length_cons, h6.length, h4]
    rfl
  · have C := cxt_of (P := P) (w := w) (K := K) (base := base) (qual := qual) (f := f) (E := E) (A := A) (outer := outer) (s := s) (H := H) (cdv := cdv) S blt hr
    exact pss_pick C.toCxt C.fn rfl rfl rfl rfl (loS_ok lo (by simp [nPick])) (loS_ok lo (by simp [nPick])) (loS_ok lo (by simp [nPick])) (loS_ok lo (by simp [nPick])) (glS_ok gl (by simp)) (glS_ok gl (by simp))
theorem fn_cell {p1 p2 p3 p4 p5 p6 p7 p8 p9 p10 p11 p12 : Pos} {k0 : Nat} (F : FunD K x qual params (cellBody p1 p2 p3 p4 p5 p6 p7 p8 p9 p10 p11 p12 k0) scope [] [] f fd) (S : FnScope ["script", "k"] ["script", "k"] scope) (blt : ∀ x ∈ bltNames, mg x = none) (lo : loS scope ["script", "k"] = true) (gl : glS scope ["len"] = true) :
    FnOk P w K mg base CX0 1 f fd ["script", "k"] (spCell K) := by
  refine F.ok S (fun vs H Q E h => ?_) (fun cdv A outer s H vs Q E hr h => ⟨tCell K, PSs.nox ?_, cell_run h⟩)
  · obtain ⟨l, ns, j, rfl, _⟩ := h
    rfl
  · have C := cxt_of (P := P) (w := w) (K := K) (base := base) (qual := qual) (f := f) (E := E) (A := A) (outer := outer) (s := s) (H := H) (cdv := cdv) S blt hr
    have lv : ∀ {x : Str}, Loc scope x → Vis scope x := fun h => h.elim .inl fun z => .inr (.inl z)
    exact pss_cell rfl rfl (lv (loS_ok lo (by simp))) (lv (loS_ok lo (by simp))) (glS_ok gl (by simp)) (C.blt _ (by simp [bltNames]))
theorem fn_pool {p0 p1 p2 p3 p4 p5 p6 p7 p8 p9 p10 p11 p12 p13 p14 p15 p16 p17 p18 p19 p20 p21 p22 p23 p24 p25 p26 p27 p28 p29 p30 p31 p32 p33 p34 p35 : Pos} {j : Nat} {F' : Fnc} {fc : Addr} {dc : FuncData} {pc : List Str} (F : FunD K x qual params [.Assign [.Name "rows" p0] (.List [] p1) p2,
      .For (.Name "k" p3) (.Call (.Name "range" p4) [.Call (.Name "min" p5) [.Constant (.int 4) 0 p6, .Call (.Name "max" p7) [.Constant (.int 1) 0 p8, .Call (.Name "len" p9) [.Name "script" p10] [] p11] [] p12] [] p13] [] p14)
        [.Assign [.Name "rows" p15] (.BinOp (.Name "rows" p16) .Add (.Call (.Name "_law_draws" p17) [.BinOp (.Call (.Name "_law_cell" p18) [.Name "script" p19, .Name "k" p20] [] p21) .Add (.BinOp (.Constant (.int 7) 0 p22) .Mult (.Name "k" p23) p24) p25, .Constant (.int 20) 0 p26] [] p27) p28) p29] [] p30,
      .Return (some (.List [.Name "rows" p31, .List [.Constant (.int 0) 0 p32] p33] p34)) p35] scope [] [] f fd) (S : FnScope nPool ["script"] scope) (blt : ∀ x ∈ bltNames, mg x = none) (lo : loS scope nPool = true) (gl : glS scope ["len", "min", "max", "range", "_law_cell", "_law_draws"] = true)
    (hF : DrawsOk F') (Fc : FnOk P w K mg base CX0 j fc dc pc (spCell K)) (hc : mg "_law_cell" = some (.ref fc)) (kc : PySem.W.keepIn K (.ref fc) = true) (bc : Binds K dc pc [])
    (Fd : HasF j P w K mg base "_law_draws" 2 F' false) :
    FnOk P w K mg base CX0 (j + 1) f fd ["script"] (spPool K) := by
  obtain ⟨fr, dr, pr, hd, kd, Fd, bd⟩ := Fd
  refine F.ok S (fun vs H Q E h => ?_) (fun cdv A outer s H vs Q E hr h => ⟨t_pool K F', PSs.nox ?_, pure_pool hF h⟩)
  · obtain ⟨l, ns, rfl, _⟩ := h
    rfl
  · have C := cxt_of (P := P) (w := w) (K := K) (base := base) (qual := qual) (f := f) (E := E) (A := A) (outer := outer) (s := s) (H := H) (cdv := cdv) S blt hr
    exact pss_pool C.toCxt C.fn C.own rfl (loS_ok lo (by simp [nPool])) (loS_ok lo (by simp [nPool])) (loS_ok lo (by simp [nPool])) (glS_ok gl (by simp)) (glS_ok gl (by simp)) (glS_ok gl (by simp)) (glS_ok gl (by simp)) (glS_ok gl (by simp)) (glS_ok gl (by simp)) Fc hc kc bc Fd hd kd bd

/-! ### the law -/
def spLaw (K : PySem.W.Frag) : Sp := fun vs H Q _ => ∃ (a : Addr) (ns : List Int), vs = [.ref a] ∧ SqL K H a (ns.map V.int) ∧ ns.length ≤ sizeLine ∧ (∀ H', Q (.bl true) H')
def lawE (L : Nat) : Env := .none :: .pool :: List.replicate (L - 2) .none
theorem lawE_pool {L i : Nat} (h : (lawE L)[i]? = some .pool) : i = 1 := by
  unfold lawE at h
  match i, h with
  | 0, h => cases h
  | 1, h => rfl
  | i + 2, h =>
    have h : (List.replicate (L - 2) Slot.none)[i]? = some Slot.pool := h
    obtain ⟨h1, h2⟩ := List.getElem?_eq_some_iff.mp h
    simp at h2
theorem lawE_val {L i : Nat} {d : D} (h : (lawE L)[i]? = some (.val d)) : False := by
  unfold lawE at h
  match i, h with
  | 0, h => cases h
  | 1, h => cases h
  | i + 2, h =>
    have h : (List.replicate (L - 2) Slot.none)[i]? = some (Slot.val d) := h
    obtain ⟨h1, h2⟩ := List.getElem?_eq_some_iff.mp h
    simp at h2
theorem lawE_own {L i : Nat} {d : List D} (h : (lawE L)[i]? = some (.own d)) : False := by
  unfold lawE at h
  match i, h with
  | 0, h => cases h
  | 1, h => cases h
  | i + 2, h =>
    have h : (List.replicate (L - 2) Slot.none)[i]? = some (Slot.own d) := h
    obtain ⟨h1, h2⟩ := List.getElem?_eq_some_iff.mp h
    simp at h2
theorem fn_law {p0 p1 p2 p3 p4 : Pos} {rest : List Stmt} {N : List Str} {fp : Addr} {dp : FuncData} {pp : List Str} (F : FunD K x qual params (.Assign [.Name "pool" p0] (.Call (.Name "_law_pool" p1) [.Name "script" p2] [] p3) p4 :: rest) scope [] [] f fd) (S : FnScope N ["script"] scope)
    (blt : ∀ x ∈ bltNames, mg x = none) (h0 : N[0]? = some ("script" : Str)) (h1 : N[1]? = some ("pool" : Str)) (lo : loS scope ["script", "pool"] = true) (gl : glS scope ["_law_pool"] = true)
    (Fp : FnOk P w K mg base CX0 k fp dp pp (spPool K)) (hp : mg "_law_pool" = some (.ref fp)) (kp : PySem.W.keepIn K (.ref fp) = true) (bp : Binds K dp pp [])
    {b : Sts} (ok : okSs N scope b rest = true) (hn : ∀ m ∈ needSs b, NeedOk k P w K mg base m) (hG : ∀ rows, Rows80 rows → ∃ n env' pl', evSs n b (lawE N.length) (some ⟨rows, 0⟩) = some (.rt (.bl true), env', pl')) :
    FnOk P w K mg base CX0 (k + 1) f fd ["script"] (spLaw K) := by
  have hl0 := (List.getElem?_eq_some_iff.mp h0).1
  have hl1 := (List.getElem?_eq_some_iff.mp h1).1
  refine F.ok S (fun vs H Q E h => ?_) (fun cdv A outer s H vs Q E hr h => ?_)
  · obtain ⟨l, ns, rfl, _⟩ := h
    rfl
  have lv : ∀ {x : Str}, Loc scope x → Vis scope x := fun h => h.elim .inl fun z => .inr (.inl z)
  obtain ⟨a, ns, rfl, hs, hz, hq⟩ := h
  generalize hX : (cxOf CX0 P w K mg base N qual scope f cdv A outer s H E).nox = X
  have C : CxS k X := by rw [← hX]; exact cxt_of S blt hr
  have eN : X.N = N := by rw [← hX] <;> rfl
  have eK : X.K = K := by rw [← hX] <;> rfl
  have eS : X.env.scope = scope := by rw [← hX] <;> rfl
  -- the number of turns is fixed behind the pool
  refine ⟨fun D σ H => tCall (spPool K) [] E0 (tCons (tVar 0) tNil) σ H fun v H1 => ∃ n, RSs K N.length n b D (σ.set 1 (some v)) H1, PSs.nox ?_, ?_⟩
  · rw [hX]
    have e0 : PE X (.Name "script" p2) (tVar 0) := pe_var (by rw [eN]; exact h0) (by rw [eS]; exact lv (loS_ok lo (by simp)))
    have pc : PE X (.Call (.Name "_law_pool" p1) [.Name "script" p2] [] p3) (tCall (spPool X.K) [] E0 (tCons (tVar 0) tNil)) := by
      refine pe_call (k := k) (f := fp) (fd := dp) (ps := pp) (CX := CX0) ?_ C.room (by unfold Gl Env.kindOf; rw [eS]; exact glS_ok gl (by simp)) ?_ ?_ ?_ .nil pass0 (pa_cons e0 pa_nil)
      · rw [← hX]; exact Fp
      · rw [← hX]; exact hp
      · rw [← hX]; exact kp
      · rw [← hX]; exact bp
    have st : PS X (.Assign [.Name "pool" p0] (.Call (.Name "_law_pool" p1) [.Name "script" p2] [] p3) p4) _ := ps_set (i := 1) C.nd (by rw [eN]; exact h1) (by rw [eS]; exact loS_ok lo (by simp)) pc rfl (.inl (C.fn _))
    refine ⟨fun pins s σ H D I hq => ?_⟩
    have all : ∀ n, PSs X rest (RSs X.K X.N.length n b) := fun n => sSs k n b X rest C (fun m hm => by rw [← hX]; exact hn m hm) (by rw [eN, eS]; exact ok)
    have many : PSs X rest (fun D σ H => ∃ n, RSs X.K X.N.length n b D σ H) := ⟨fun pins s σ H D I ⟨n, hq⟩ => (all n).run pins s σ H D I hq⟩
    refine (pss_cons st many).run pins s σ H D I ?_
    rw [eN, eK]
    exact hq
  · refine ⟨_, get_start (v := .ref a) rfl, a, ns, rfl, hs, hz, fun rows p r q H' hrows nrq le e1 e2 e3 => ?_⟩
    obtain ⟨n, env', pl', ev⟩ := hG rows hrows
    refine ⟨n, fun b => b ∈ [p, r, q], H', [p, r, q], [p, r, q], fun _ => none, lawE N.length, some ⟨rows, 0⟩, .rt (.bl true), env', pl', ?_, ev, fun v H2 pa2 s2 g2 rv => ?_⟩
    · have hst : Sta H' [p, r, q] (some ⟨rows, 0⟩) := ⟨p, r, q, rfl, nrq, e1, e2, e3⟩
      have hlen : (L2.start N [V.ref a]).length = N.length := start_len (by simp only [List.length_cons, List.length_nil]; omega)
      refine ⟨by rw [List.length_set]; exact hlen, fun b hb => hst.al b hb, fun b hb => hb, .refl, hst, fun i l z => (lawE_own z).elim, fun i d z => (lawE_val z).elim, fun i z => ?_, fun i j p z _ => (by cases z), fun i p z => (by cases z)⟩
      cases lawE_pool z
      exact ⟨p, [r, q], rfl, by rw [List.getElem?_set_self (by rw [hlen]; exact hl1)]⟩
    · cases rv.bl
      exact hq H2
end
end Pu
set_option Elab.async false
set_option linter.all false
set_option maxRecDepth 100000
set_option maxHeartbeats 1000000
namespace Pu
open PySem PySem.Spec PyProof.Rows L2

def fuel : Nat := 1000000
def AllN (Q : Need → Prop) : List Need → Prop
  | [] => True
  | m :: l => Q m ∧ AllN Q l
theorem AllN.mem {Q : Need → Prop} : ∀ {l : List Need}, AllN Q l → ∀ m ∈ l, Q m
  | m :: l, h, x, hx => by
    rcases List.mem_cons.mp hx with rfl | hx
    · exact h.1
    · exact AllN.mem h.2 x hx
section
variable {P : Program} {w : World} {K : PySem.W.Frag} {mg : Str → Option Value} {base : Heap} {x qual : Str} {params : Arguments} {body : List Stmt} {scope : Scope} {f : Addr} {fd : FuncData} {N ps : List Str} {k a : Nat}
theorem has_of (F : FunD K x qual params body scope [] [] f fd) (hmg : mg x = some (.ref f)) (hb : Binds K fd ps []) (S : FnScope N ps scope) (blt : ∀ x ∈ bltNames, mg x = none) {b : Sts} (ok : okSs N scope b body = true)
    (hn : AllN (NeedOk k P w K mg base) (needSs b)) {p : Bool} (hl : ps.length = a + if p = true then 1 else 0) (hN : ps.length ≤ N.length) : HasF (k + 1) P w K mg base x a (fun ds pl => evD fuel b N.length p ds pl) p :=
  ⟨f, fd, ps, hmg, F.kp, fn_body F S blt ok hn.mem hl hN fun ds pl d pl' _ h => ⟨fuel, h⟩, hb⟩
/-- one that promises nothing -/
theorem has_no (F : FunD K x qual params body scope [] [] f fd) (hmg : mg x = some (.ref f)) (hb : Binds K fd ps []) (S : FnScope N ps scope) (a : Nat) (p : Bool) : HasF (k + 1) P w K mg base x a (fun _ _ => none) p := by
  refine ⟨f, fd, ps, hmg, F.kp, F.ok S (fun vs H Q E h => ?_) (fun cdv A outer s H vs Q E hr h => ?_), hb⟩
  · obtain ⟨hd, pa, pl, ds, d, pl', vs', h1, h2, h3, h4, h5, h6, h7, _⟩ := h
    cases h7
  · obtain ⟨hd, pa, pl, ds, d, pl', vs', h1, h2, h3, h4, h5, h6, h7, _⟩ := h
    cases h7
theorem need_int (x : Str) (i : Int) (t : Tok) (h : mg x = some (.int i t)) : NeedOk k P w K mg base (.gl x (.int i)) := ⟨.int i, _, h, ⟨t, rfl⟩, fun F => .mint i⟩
theorem need_strg (x : Str) {z : List Nat} {y : Str} (h : ∃ t, mg x = some (.str y t)) (e : y = mkS z) : NeedOk k P w K mg base (.gl x (.str z)) := by
  obtain ⟨t, h⟩ := h
  subst e
  exact ⟨.str (mkS z), _, h, ⟨t, rfl⟩, fun F => .mstr z⟩
theorem need_intg (x : Str) {i : Int} (h : ∃ t, mg x = some (.int i t)) : NeedOk k P w K mg base (.gl x (.int i)) := by
  obtain ⟨t, h⟩ := h
  exact ⟨.int i, _, h, ⟨t, rfl⟩, fun F => .mint i⟩
end
end Pu
set_option Elab.async false
set_option linter.all false
set_option maxRecDepth 100000
set_option maxHeartbeats 1000000
namespace Pu
open PySem PySem.Spec PyProof.Rows L2

/-! ### the evaluator as a machine of rewriting: no rest stands under a binder -/
abbrev RsE := Option (D × Pool)
section
variable {n : Nat} {env : Env} {pl : Pool} {d d1 d2 : D} {e a b c : Ex} {es : Exs} {i j : Nat} {ss : Sts} {s : St}
theorem sizeLine_eq : sizeLine = 16777216 := rfl
theorem gd_T {α : Type} {x : α} [h : Decidable True] : gd True x = some x := if_pos trivial
def pr (o : Option D) (pl : Pool) : RsE := o.map (·, pl)
theorem pr_some : pr (some d) pl = some (d, pl) := rfl
theorem pr_gd {c : Prop} [Decidable c] : pr (gd c d) pl = gd c (d, pl) := by unfold pr gd; split <;> rfl
def prB (o : Option Bool) (pl : Pool) : RsE := o.map fun k => (.bl k, pl)
theorem prB_some {k : Bool} : prB (some k) pl = some (.bl k, pl) := rfl
def prT (o : Option Bool) (pl : Pool) : Option (Bool × Pool) := o.map (·, pl)
theorem prT_some {k : Bool} : prT (some k) pl = some (k, pl) := rfl
-- names, constants
theorem e_con : evE (.con d) env pl = some (d, pl) := rfl
theorem e_glob {x : Str} : evE (.glob x d) env pl = some (d, pl) := rfl
def rdS : Option Slot → Pool → RsE
  | some (.val d), pl => some (d, pl)
  | some (.own l), pl => some (.lst l, pl)
  | _, _ => none
theorem e_var : evE (.var i) env pl = rdS env[i]? pl := by
  unfold evE look
  cases env[i]? with
  | none => rfl
  | some s => cases s <;> rfl
theorem rd_val : rdS (some (.val d)) pl = some (d, pl) := rfl
theorem rd_own {l : List D} : rdS (some (.own l)) pl = some (.lst l, pl) := rfl
-- two operands
def bin1 (op : Operator) (b : Ex) (env : Env) : RsE → RsE
  | some (d, pl) => (evE b env pl).bind fun q => pr (opBin op d q.1) q.2
  | none => none
def bin2 (op : Operator) (d : D) : RsE → RsE
  | some (e, pl) => pr (opBin op d e) pl
  | none => none
theorem e_bin {op : Operator} : evE (.bin op a b) env pl = bin1 op b env (evE a env pl) := by
  rw [evE]; cases evE a env pl <;> rfl
theorem bin1_s {op : Operator} : bin1 op b env (some (d, pl)) = bin2 op d (evE b env pl) := by
  show (evE b env pl).bind _ = _; cases evE b env pl <;> rfl
theorem bin2_s {op : Operator} : bin2 op d1 (some (d2, pl)) = pr (opBin op d1 d2) pl := rfl
def neg1 : RsE → RsE
  | some (.int i, pl) => some (.int (-i), pl)
  | _ => none
theorem e_neg : evE (.neg a) env pl = neg1 (evE a env pl) := by
  rw [evE]; cases evE a env pl with
  | none => rfl
  | some r => obtain ⟨d, pl⟩ := r; cases d <;> rfl
theorem neg1_s {i : Int} : neg1 (some (.int i, pl)) = some (.int (-i), pl) := rfl
def cmp1 (op : CmpOp) (b : Ex) (env : Env) : RsE → RsE
  | some (d, pl) => (evE b env pl).bind fun q => prB (opCmp op d q.1) q.2
  | none => none
def cmp2 (op : CmpOp) (d : D) : RsE → RsE
  | some (e, pl) => prB (opCmp op d e) pl
  | none => none
theorem e_cmp {op : CmpOp} : evE (.cmp op a b) env pl = cmp1 op b env (evE a env pl) := by
  rw [evE]; cases evE a env pl <;> rfl
theorem cmp1_s {op : CmpOp} : cmp1 op b env (some (d, pl)) = cmp2 op d (evE b env pl) := by
  show (evE b env pl).bind _ = _; cases evE b env pl <;> rfl
theorem cmp2_s {op : CmpOp} : cmp2 op d1 (some (d2, pl)) = prB (opCmp op d1 d2) pl := rfl
def chn1 (o1 o2 : CmpOp) (b c : Ex) (env : Env) : RsE → RsE
  | some (d, pl) => (evE b env pl).bind fun q => (opCmp o1 d q.1).bind fun k => if k then (evE c env q.2).bind fun u => prB (opCmp o2 q.1 u.1) u.2 else some (.bl false, q.2)
  | none => none
def chn2 (o1 o2 : CmpOp) (c : Ex) (env : Env) (d : D) : RsE → RsE
  | some (e, pl) => (opCmp o1 d e).bind fun k => if k then (evE c env pl).bind fun u => prB (opCmp o2 e u.1) u.2 else some (.bl false, pl)
  | none => none
def chn3 (o2 : CmpOp) (c : Ex) (env : Env) (e : D) (pl : Pool) : Option Bool → RsE
  | some k => if k then cmp2 o2 e (evE c env pl) else some (.bl false, pl)
  | none => none
theorem e_chn {o1 o2 : CmpOp} : evE (.chn o1 o2 a b c) env pl = chn1 o1 o2 b c env (evE a env pl) := by
  rw [evE]; cases evE a env pl <;> rfl
theorem chn1_s {o1 o2 : CmpOp} : chn1 o1 o2 b c env (some (d, pl)) = chn2 o1 o2 c env d (evE b env pl) := by
  show (evE b env pl).bind _ = _; cases evE b env pl <;> rfl
theorem chn2_s {o1 o2 : CmpOp} : chn2 o1 o2 c env d1 (some (d2, pl)) = chn3 o2 c env d2 pl (opCmp o1 d1 d2) := by
  show (opCmp o1 d1 d2).bind _ = _
  cases opCmp o1 d1 d2 with
  | none => rfl
  | some k =>
    cases k with
    | false => rfl
    | true => show (evE c env pl).bind _ = cmp2 o2 d2 (evE c env pl); cases evE c env pl <;> rfl
theorem chn3_s {o2 : CmpOp} {k : Bool} : chn3 o2 c env d pl (some k) = if k = true then cmp2 o2 d (evE c env pl) else some (.bl false, pl) := rfl
def isK1 (n : Bool) (k : D) : RsE → RsE
  | some (d, pl) => prB ((isKD d k).map fun b => if n then !b else b) pl
  | none => none
theorem e_isK {n : Bool} {k : D} : evE (.isK n a k) env pl = isK1 n k (evE a env pl) := by
  rw [evE]; cases evE a env pl with
  | none => rfl
  | some r => obtain ⟨d, pl⟩ := r; show (isKD d k).map _ = prB _ _; unfold prB; rw [Option.map_map]; rfl
theorem isK1_s {n : Bool} {k : D} : isK1 n k (some (d, pl)) = prB ((isKD d k).map fun b => if n then !b else b) pl := rfl
-- and, or
def bolC (isAnd : Bool) (e : Ex) (es : Exs) (env : Env) : RsE → RsE
  | some (d, pl) => (truD d).bind fun k => if k = isAnd then evB isAnd (.cons e es) env pl else some (d, pl)
  | none => none
def bolD (isAnd : Bool) (e : Ex) (es : Exs) (env : Env) (d : D) (pl : Pool) : Option Bool → RsE
  | some k => if k = isAnd then evB isAnd (.cons e es) env pl else some (d, pl)
  | none => none
theorem e_bools {k : Bool} : evE (.bools k es) env pl = evB k es env pl := by rw [evE]
theorem b_last {k : Bool} : evB k (.cons e .nil) env pl = evE e env pl := by rw [evB]
theorem b_more {k : Bool} : evB k (.cons e (.cons a es)) env pl = bolC k a es env (evE e env pl) := by
  rw [evB]; cases evE e env pl <;> rfl
theorem bolC_s {k : Bool} : bolC k a es env (some (d, pl)) = bolD k a es env d pl (truD d) := by
  show (truD d).bind _ = _; cases truD d <;> rfl
theorem bolD_s {k t : Bool} : bolD k a es env d pl (some t) = if t = k then evB k (.cons a es) env pl else some (d, pl) := rfl
def not1 : RsE → RsE
  | some (d, pl) => prB ((truD d).map fun b => !b) pl
  | none => none
theorem e_not : evE (.notE a) env pl = not1 (evE a env pl) := by
  rw [evE]; cases evE a env pl with
  | none => rfl
  | some r => obtain ⟨d, pl⟩ := r; show (truD d).map _ = prB _ _; unfold prB; rw [Option.map_map]; rfl
theorem not1_s : not1 (some (d, pl)) = prB ((truD d).map fun b => !b) pl := rfl
def ite1 (a b : Ex) (env : Env) : RsE → RsE
  | some (d, pl) => (truD d).bind fun k => if k then evE a env pl else evE b env pl
  | none => none
def ite2 (a b : Ex) (env : Env) (pl : Pool) : Option Bool → RsE
  | some k => if k = true then evE a env pl else evE b env pl
  | none => none
theorem e_ite : evE (.ite c a b) env pl = ite1 a b env (evE c env pl) := by
  rw [evE]; cases evE c env pl <;> rfl
theorem ite1_s : ite1 a b env (some (d, pl)) = ite2 a b env pl (truD d) := by
  show (truD d).bind _ = _; cases truD d <;> rfl
theorem ite2_s {k : Bool} : ite2 a b env pl (some k) = if k = true then evE a env pl else evE b env pl := rfl
-- arguments, displays
abbrev RsA := Option (List D × Pool)
def es1 (es : Exs) (env : Env) : RsE → RsA
  | some (d, pl) => (evEs es env pl).map fun q => (d :: q.1, q.2)
  | none => none
def es2 (d : D) : RsA → RsA
  | some (l, pl) => some (d :: l, pl)
  | none => none
theorem es_nil : evEs .nil env pl = some ([], pl) := by rw [evEs]
theorem es_cons : evEs (.cons e es) env pl = es1 es env (evE e env pl) := by
  rw [evEs]; cases evE e env pl <;> rfl
theorem es1_s : es1 es env (some (d, pl)) = es2 d (evEs es env pl) := by
  show (evEs es env pl).map _ = _; cases evEs es env pl <;> rfl
theorem es2_s {l : List D} : es2 d (some (l, pl)) = some (d :: l, pl) := rfl
def tup1 : RsA → RsE
  | some (l, pl) => gd (l.length ≤ sizeLine) (.tup l, pl)
  | none => none
def lst1 : RsA → RsE
  | some (l, pl) => gd (l.length ≤ sizeLine) (.lst l, pl)
  | none => none
theorem e_tup : evE (.tup es) env pl = tup1 (evEs es env pl) := by rw [evE]; cases evEs es env pl <;> rfl
theorem e_lst : evE (.lst es) env pl = lst1 (evEs es env pl) := by rw [evE]; cases evEs es env pl <;> rfl
theorem tup1_s {l : List D} : tup1 (some (l, pl)) = gd (l.length ≤ 16777216) (.tup l, pl) := rfl
theorem lst1_s {l : List D} : lst1 (some (l, pl)) = gd (l.length ≤ 16777216) (.lst l, pl) := rfl
def sub1 (b : Ex) (env : Env) : RsE → RsE
  | some (d, pl) => (evE b env pl).bind fun q => pr (opSub d q.1) q.2
  | none => none
def sub2 (d : D) : RsE → RsE
  | some (e, pl) => pr (opSub d e) pl
  | none => none
theorem e_sub : evE (.sub a b) env pl = sub1 b env (evE a env pl) := by rw [evE]; cases evE a env pl <;> rfl
theorem sub1_s : sub1 b env (some (d, pl)) = sub2 d (evE b env pl) := by show (evE b env pl).bind _ = _; cases evE b env pl <;> rfl
theorem sub2_s : sub2 d1 (some (d2, pl)) = pr (opSub d1 d2) pl := rfl
abbrev RsI := Option (Option Int × Pool)
def o1 : RsE → RsI
  | some (.int i, pl) => some (some i, pl)
  | _ => none
theorem o_none : evO .no env pl = some (none, pl) := by rw [evO]
theorem o_some : evO (.yes e) env pl = o1 (evE e env pl) := by
  rw [evO]; cases evE e env pl with
  | none => rfl
  | some r => obtain ⟨d, pl⟩ := r; cases d <;> rfl
theorem o1_s {i : Int} : o1 (some (.int i, pl)) = some (some i, pl) := rfl
def sl1 (lo hi : OEx) (env : Env) : RsE → RsE
  | some (d, pl) => (evO lo env pl).bind fun q => (evO hi env q.2).bind fun u => pr (opSl d q.1 u.1) u.2
  | none => none
def sl2 (hi : OEx) (env : Env) (d : D) : RsI → RsE
  | some (l, pl) => (evO hi env pl).bind fun u => pr (opSl d l u.1) u.2
  | none => none
def sl3 (d : D) (l : Option Int) : RsI → RsE
  | some (h, pl) => pr (opSl d l h) pl
  | none => none
theorem e_sl {lo hi : OEx} : evE (.sl a lo hi) env pl = sl1 lo hi env (evE a env pl) := by rw [evE]; cases evE a env pl <;> rfl
theorem sl1_s {lo hi : OEx} : sl1 lo hi env (some (d, pl)) = sl2 hi env d (evO lo env pl) := by show (evO lo env pl).bind _ = _; cases evO lo env pl <;> rfl
theorem sl2_s {hi : OEx} {l : Option Int} : sl2 hi env d (some (l, pl)) = sl3 d l (evO hi env pl) := by show (evO hi env pl).bind _ = _; cases evO hi env pl <;> rfl
theorem sl3_s {l h : Option Int} : sl3 d l (some (h, pl)) = pr (opSl d l h) pl := rfl
def rev1 : RsE → RsE
  | some (d, pl) => pr (opRev d) pl
  | none => none
theorem e_rev : evE (.rev a) env pl = rev1 (evE a env pl) := by rw [evE]; cases evE a env pl <;> rfl
theorem rev1_s : rev1 (some (d, pl)) = pr (opRev d) pl := rfl
-- calls
def call1 (F : Fnc) : RsA → RsE
  | some (l, pl) => F l pl
  | none => none
theorem e_call {f : Str} {m : Nat} {F : Fnc} : evE (.call f m F es) env pl = call1 F (evEs es env pl) := by rw [evE]; cases evEs es env pl <;> rfl
theorem call1_s {F : Fnc} {l : List D} : call1 F (some (l, pl)) = F l pl := rfl
def callP1 (F : Fnc) (es : Exs) (env : Env) (pl : Pool) : Option Slot → RsE
  | some .pool => call1 F (evEs es env pl)
  | _ => none
theorem e_callP {f : Str} {m : Nat} {F : Fnc} : evE (.callP f m F i es) env pl = callP1 F es env pl env[i]? := by
  rw [evE]
  cases env[i]? with
  | none => rfl
  | some s => cases s <;> first | rfl | (show (evEs es env pl).bind _ = call1 F _; cases evEs es env pl <;> rfl)
theorem callP1_s {F : Fnc} : callP1 F es env pl (some .pool) = call1 F (evEs es env pl) := rfl
def bi1 (f : Bi) : RsA → RsE
  | some (l, pl) => pr (opBi f l) pl
  | none => none
theorem e_bi {f : Bi} : evE (.bi f es) env pl = bi1 f (evEs es env pl) := by rw [evE]; cases evEs es env pl <;> rfl
theorem bi1_s {f : Bi} {l : List D} : bi1 f (some (l, pl)) = pr (opBi f l) pl := rfl
def me1 (m : Me) (es : Exs) (env : Env) : RsE → RsE
  | some (d, pl) => (evEs es env pl).bind fun q => pr (opMe m d q.1) q.2
  | none => none
def me2 (m : Me) (d : D) : RsA → RsE
  | some (l, pl) => pr (opMe m d l) pl
  | none => none
theorem e_me {m : Me} : evE (.me m a es) env pl = me1 m es env (evE a env pl) := by rw [evE]; cases evE a env pl <;> rfl
theorem me1_s {m : Me} : me1 m es env (some (d, pl)) = me2 m d (evEs es env pl) := by show (evEs es env pl).bind _ = _; cases evEs es env pl <;> rfl
theorem me2_s {m : Me} {l : List D} : me2 m d (some (l, pl)) = pr (opMe m d l) pl := rfl
def isi1 (t : Ty) : RsE → RsE
  | some (d, pl) => some (.bl (isTy t d), pl)
  | none => none
theorem e_isi {t : Ty} : evE (.isi a t) env pl = isi1 t (evE a env pl) := by rw [evE]; cases evE a env pl <;> rfl
theorem isi1_s {t : Ty} : isi1 t (some (d, pl)) = some (.bl (isTy t d), pl) := rfl
-- what is walked
def rng1 : RsA → RsA
  | some (l, pl) => (rngL l).map (·, pl)
  | none => none
def prL (o : Option (List D)) (pl : Pool) : RsA := o.map (·, pl)
theorem prL_some {l : List D} : prL (some l) pl = some (l, pl) := rfl
theorem w_rngE : evW (.rng es) env pl = rng1 (evEs es env pl) := by rw [evW]; cases evEs es env pl <;> rfl
theorem rng1_s {l : List D} : rng1 (some (l, pl)) = prL (rngL l) pl := rfl
def wlk1 : RsE → RsA
  | some (d, pl) => (walkL d).map (·, pl)
  | none => none
theorem w_exE : evW (.ex e) env pl = wlk1 (evE e env pl) := by rw [evW]; cases evE e env pl <;> rfl
theorem wlk1_s : wlk1 (some (d, pl)) = prL (walkL d) pl := rfl
theorem walk_lst {l : List D} : walkL (.lst l) = some l := rfl
theorem walk_tup {l : List D} : walkL (.tup l) = some l := rfl
theorem walk_str {l : List Nat} : walkL (.str l) = some (l.map fun c => .str [c]) := rfl
-- comprehensions
def lc1 (i : Nat) (cd : OEx) (el : Ex) (env : Env) : RsA → RsE
  | some (l, pl) => (lcGo (lcTurn i cd el env) l pl).bind fun q => gd (q.1.length ≤ sizeLine) (.lst q.1, q.2)
  | none => none
def lc2 : RsA → RsE
  | some (l, pl) => gd (l.length ≤ 16777216) (.lst l, pl)
  | none => none
theorem e_lc {w : Wk} {cd : OEx} : evE (.lc i w cd e) env pl = lc1 i cd e env (evW w env pl) := by
  rw [evE_lc]; cases evW w env pl <;> rfl
theorem lc1_s {cd : OEx} {l : List D} : lc1 i cd e env (some (l, pl)) = lc2 (lcGo (lcTurn i cd e env) l pl) := by
  show (lcGo _ l pl).bind _ = _; cases lcGo (lcTurn i cd e env) l pl <;> rfl
theorem lc2_s {l : List D} : lc2 (some (l, pl)) = gd (l.length ≤ 16777216) (.lst l, pl) := rfl
def lcP1 (t : Tgt) (cd : OEx) (el : Ex) (env : Env) : RsA → RsE
  | some (l, pl) => (lcGo (lcTurnP t cd el env) l pl).bind fun q => gd (q.1.length ≤ sizeLine) (.lst q.1, q.2)
  | none => none
theorem e_lcP {w : Wk} {t : Tgt} {cd : OEx} : evE (.lcP t w cd e) env pl = lcP1 t cd e env (evW w env pl) := by
  rw [evE_lcP]; cases evW w env pl <;> rfl
theorem lcP1_s {t : Tgt} {cd : OEx} {l : List D} : lcP1 t cd e env (some (l, pl)) = lc2 (lcGo (lcTurnP t cd e env) l pl) := by
  show (lcGo _ l pl).bind _ = _; cases lcGo (lcTurnP t cd e env) l pl <;> rfl
def lcD1 (t t2 : Tgt) (w2 : Wk) (cd : OEx) (el : Ex) (env : Env) : RsA → RsE
  | some (l, pl) => (lcAll (lc2Turn t t2 w2 cd el env) l pl).bind fun q => gd (q.1.length ≤ sizeLine) (.lst q.1, q.2)
  | none => none
theorem e_lc2 {w w2 : Wk} {t t2 : Tgt} {cd : OEx} : evE (.lc2 t w t2 w2 cd e) env pl = lcD1 t t2 w2 cd e env (evW w env pl) := by
  rw [evE_lc2]; cases evW w env pl <;> rfl
theorem lcD1_s {t t2 : Tgt} {w2 : Wk} {cd : OEx} {l : List D} : lcD1 t t2 w2 cd e env (some (l, pl)) = lc2 (lcAll (lc2Turn t t2 w2 cd e env) l pl) := by
  show (lcAll _ l pl).bind _ = _; cases lcAll (lc2Turn t t2 w2 cd e env) l pl <;> rfl
def sset2 (pl : Pool) : Option (List D) → RsE
  | some l => some (.lst l, pl)
  | none => none
def sset1 : RsE → RsE
  | some (d, pl) => sset2 pl (ssetD d)
  | none => none
theorem e_sset {a : Ex} : evE (.sset a) env pl = sset1 (evE a env pl) := by
  rw [evE]
  cases evE a env pl with
  | none => rfl
  | some r => obtain ⟨d, pl⟩ := r; show (ssetD d).map _ = sset2 pl (ssetD d); cases ssetD d <;> rfl
theorem sset1_s {d : D} : sset1 (some (d, pl)) = sset2 pl (ssetD d) := rfl
theorem sset2_s {l : List D} : sset2 pl (some l) = some (.lst l, pl) := rfl
theorem ssetD_lst {l : List D} : ssetD (.lst l) = ssetL l := rfl
theorem ssetD_str {l : List Nat} : ssetD (.str l) = ssetL (l.map fun c => .str [c]) := rfl
def lrng2 (pl : Pool) : Option (List D) → RsE
  | some l => gd (l.length ≤ 16777216) (.lst l, pl)
  | none => none
def lrng1 : RsA → RsE
  | some (l, pl) => lrng2 pl (rngL l)
  | none => none
theorem e_lrng : evE (.lrng es) env pl = lrng1 (evEs es env pl) := by
  rw [evE]
  cases evEs es env pl with
  | none => rfl
  | some r => obtain ⟨l, pl⟩ := r; show (rngL l).bind _ = lrng2 pl (rngL l); cases rngL l <;> rfl
theorem lrng1_s {l : List D} : lrng1 (some (l, pl)) = lrng2 pl (rngL l) := rfl
theorem lrng2_s {l : List D} : lrng2 pl (some l) = gd (l.length ≤ 16777216) (.lst l, pl) := rfl
theorem wipeE_nil : wipeE [] env = env := rfl
theorem wipeE_cons {is : List Nat} : wipeE (i :: is) env = (wipeE is env).set i .none := rfl
-- tests
def tst1 : RsE → Option (Bool × Pool)
  | some (d, pl) => prT (truD d) pl
  | none => none
theorem t_ev : evT c env pl = tst1 (evE c env pl) := by unfold evT; cases evE c env pl <;> rfl
theorem tst1_s : tst1 (some (d, pl)) = prT (truD d) pl := rfl
-- statements
def seqC (n : Nat) (ss : Sts) : RsS → RsS
  | some (.nx, env, pl) => evSs n ss env pl
  | r => r
theorem ss_nil : evSs n .nil env pl = some (.nx, env, pl) := by rw [evSs]
theorem ss_cons : evSs n (.cons s ss) env pl = seqC n ss (evS n s env pl) := by
  rw [evSs]; cases evS n s env pl with
  | none => rfl
  | some r => obtain ⟨f, r⟩ := r; cases f <;> rfl
theorem seq_nx : seqC n ss (some (.nx, env, pl)) = evSs n ss env pl := rfl
theorem seq_rt : seqC n ss (some (.rt d, env, pl)) = some (.rt d, env, pl) := rfl
theorem seq_bk : seqC n ss (some (.bk, env, pl)) = some (.bk, env, pl) := rfl
theorem seq_ct : seqC n ss (some (.ct, env, pl)) = some (.ct, env, pl) := rfl
theorem seq_ite {q : Prop} [Decidable q] {x y : RsS} : seqC n ss (if q then x else y) = if q then seqC n ss x else seqC n ss y := by split <;> rfl
def asgV (i : Nat) (S : List Nat) (env : Env) : RsE → RsS
  | some (d, pl) => some (.nx, (settle (noL d) S env).set i (.val d), pl)
  | none => none
def asgO (i : Nat) (S : List Nat) (env : Env) : RsE → RsS
  | some (.lst l, pl) => some (.nx, (settle (noLs l) S env).set i (.own l), pl)
  | _ => none
theorem s_asgV : evS n (.asg false i e) env pl = asgV i (varsE e) env (evE e env pl) := by
  rw [evS]; cases evE e env pl <;> rfl
theorem s_asgO : evS n (.asg true i e) env pl = asgO i (varsE e) env (evE e env pl) := by
  rw [evS]; cases evE e env pl with
  | none => rfl
  | some r => obtain ⟨d, pl⟩ := r; cases d <;> rfl
theorem asgV_s {S : List Nat} : asgV i S env (some (d, pl)) = some (.nx, (settle (noL d) S env).set i (.val d), pl) := rfl
theorem asgO_s {S : List Nat} {l : List D} : asgO i S env (some (.lst l, pl)) = some (.nx, (settle (noLs l) S env).set i (.own l), pl) := rfl
theorem settle_t {S : List Nat} : settle true S env = env := rfl
theorem settle_f {S : List Nat} : settle false S env = frz S 0 env := rfl
theorem settle_c {b : Bool} {S : List Nat} : settle b S env = if b = true then env else frz S 0 env := rfl
theorem frz_nil {S : List Nat} : frz S i [] = [] := rfl
theorem frz_val {S : List Nat} : frz S i (.val d :: env) = .val d :: frz S (i + 1) env := by rw [frz]; split <;> rfl
theorem frz_none {S : List Nat} : frz S i (.none :: env) = .none :: frz S (i + 1) env := by rw [frz]; split <;> rfl
theorem frz_pool {S : List Nat} : frz S i (.pool :: env) = .pool :: frz S (i + 1) env := by rw [frz]; split <;> rfl
theorem frz_own {S : List Nat} {l : List D} : frz S i (.own l :: env) = (if S.contains i = true then .val (.lst l) else .own l) :: frz S (i + 1) env := by rw [frz] <;> rfl
theorem n_non : noL .non = true := by simp [noL]
theorem n_bl {k : Bool} : noL (.bl k) = true := by simp [noL]
theorem n_int {k : Int} : noL (.int k) = true := by simp [noL]
theorem n_str {k : List Nat} : noL (.str k) = true := by simp [noL]
theorem n_lst {k : List D} : noL (.lst k) = false := by rw [noL]
theorem n_tup {k : List D} : noL (.tup k) = noLs k := by rw [noL]
theorem n_nil : noLs [] = true := by rw [noLs]
theorem n_cons {l : List D} : noLs (d :: l) = (noL d && noLs l) := by rw [noLs]
def unp1 (is : List Nat) (S : List Nat) (env : Env) : RsE → RsS
  | some (.tup ds, pl) => if ds.length = is.length then some (.nx, setAll is ds (settle (noLs ds) S env), pl) else none
  | _ => none
theorem s_unp {is : List Nat} : evS n (.unp is e) env pl = unp1 is (varsE e) env (evE e env pl) := by
  rw [evS]; cases evE e env pl with
  | none => rfl
  | some r => obtain ⟨d, pl⟩ := r; cases d <;> rfl
theorem unp1_s {is S : List Nat} {l : List D} : unp1 is S env (some (.tup l, pl)) = if l.length = is.length then some (.nx, setAll is l (settle (noLs l) S env), pl) else none := rfl
def par1 (is : List Nat) (S : List Nat) (env : Env) : RsA → RsS
  | some (ds, pl) => if ds.length = is.length then some (.nx, setAll is ds (settle (noLs ds) S env), pl) else none
  | _ => none
theorem s_parE {is : List Nat} : evS n (.par is es) env pl = par1 is (varsEs es) env (evEs es env pl) := by
  rw [evS]; cases evEs es env pl <;> rfl
theorem par1_s {is S : List Nat} {l : List D} : par1 is S env (some (l, pl)) = if l.length = is.length then some (.nx, setAll is l (settle (noLs l) S env), pl) else none := rfl
theorem setAll_nil {l : List D} : setAll [] l env = env := by unfold setAll; cases l <;> rfl
theorem setAll_cons {is : List Nat} {l : List D} : setAll (i :: is) (d :: l) env = setAll is l (env.set i (.val d)) := by rw [setAll]
def aug1 (i : Nat) (op : Operator) (e : Ex) (env : Env) (pl : Pool) : Option Slot → RsS
  | some (.val a) => (evE e env pl).bind fun r => (match a, r.1 with
        | .int _, .int _ => (opBin op a r.1).map fun d => (.nx, env.set i (.val d), r.2)
        | .str _, .str _ => (opBin op a r.1).map fun d => (.nx, env.set i (.val d), r.2)
        | _, _ => none)
  | _ => none
def aug2 (i : Nat) (op : Operator) (a : D) (env : Env) : RsE → RsS
  | some (.int b, pl) => (match a with | .int a => aug3 i env pl (opBin op (.int a) (.int b)) | _ => none)
  | some (.str b, pl) => (match a with | .str a => aug3 i env pl (opBin op (.str a) (.str b)) | _ => none)
  | _ => none
where aug3 (i : Nat) (env : Env) (pl : Pool) : Option D → RsS
  | some d => some (.nx, env.set i (.val d), pl)
  | none => none
theorem s_aug {op : Operator} : evS n (.aug i op e) env pl = aug1 i op e env pl env[i]? := by
  rw [evS]; cases env[i]? with
  | none => rfl
  | some s => cases s <;> rfl
theorem aug1_s {op : Operator} : aug1 i op e env pl (some (.val d)) = aug2 i op d env (evE e env pl) := by
  unfold aug1 aug2
  cases evE e env pl with
  | none => rfl
  | some r =>
    obtain ⟨b, pl⟩ := r
    cases d <;> cases b <;> first | rfl | (simp only [Option.bind_some]; cases opBin op _ _ <;> rfl)
theorem aug2_i {op : Operator} {x y : Int} : aug2 i op (.int x) env (some (.int y, pl)) = aug2.aug3 i env pl (opBin op (.int x) (.int y)) := rfl
theorem aug2_t {op : Operator} {x y : List Nat} : aug2 i op (.str x) env (some (.str y, pl)) = aug2.aug3 i env pl (opBin op (.str x) (.str y)) := rfl
theorem aug3_s : aug2.aug3 i env pl (some d) = some (.nx, env.set i (.val d), pl) := rfl
def app2 (i : Nat) (d : D) (env : Env) (pl : Pool) : Option Slot → RsS
  | some (.own l) => gd (l.length < 16777216) (.nx, env.set i (.own (l ++ [d])), pl)
  | _ => none
def app1 (i : Nat) (S : List Nat) (env : Env) : RsE → RsS
  | some (d, pl) => app2 i d (settle (noL d) S env) pl (settle (noL d) S env)[i]?
  | none => none
theorem s_app : evS n (.app i e) env pl = app1 i (varsE e) env (evE e env pl) := by
  rw [evS]; cases evE e env pl with
  | none => rfl
  | some r =>
    obtain ⟨d, pl⟩ := r
    show (ownAt _ i).bind _ = app2 _ _ _ _ _
    unfold ownAt app2
    split <;> rename_i h <;> simp only [h] <;> rfl
theorem app1_s {S : List Nat} : app1 i S env (some (d, pl)) = app2 i d (settle (noL d) S env) pl (settle (noL d) S env)[i]? := rfl
theorem app2_s {l : List D} : app2 i d env pl (some (.own l)) = gd (l.length < 16777216) (.nx, env.set i (.own (l ++ [d])), pl) := rfl
def ret1 (env : Env) : RsE → RsS
  | some (d, pl) => some (.rt d, env, pl)
  | none => none
theorem s_ret : evS n (.ret e) env pl = ret1 env (evE e env pl) := by rw [evS]; cases evE e env pl <;> rfl
theorem ret1_s : ret1 env (some (d, pl)) = some (.rt d, env, pl) := rfl
theorem ret1_ite {q : Prop} [Decidable q] {x y : RsE} : ret1 env (if q then x else y) = if q then ret1 env x else ret1 env y := by split <;> rfl
def if1 (n : Nat) (x y : Sts) (env : Env) : Option (Bool × Pool) → RsS
  | some (t, pl) => if t = true then evSs n x env pl else evSs n y env pl
  | none => none
theorem s_if {x y : Sts} : evS n (.ite c x y) env pl = if1 n x y env (evT c env pl) := by rw [evS]; cases evT c env pl <;> rfl
theorem if1_s {x y : Sts} {t : Bool} : if1 n x y env (some (t, pl)) = if t = true then evSs n x env pl else evSs n y env pl := rfl
def turnF (n i : Nat) (b : Sts) : D → Env → Pool → RsS := fun x env pl => evSs n b (env.set i (.val x)) pl
def turnT (n : Nat) (is : List Nat) (b : Sts) : D → Env → Pool → RsS := fun x env pl => match x with
  | .tup ds => if ds.length = is.length then evSs n b (setAll is ds env) pl else none
  | _ => none
def for1 (turn : D → Env → Pool → RsS) (env : Env) : RsA → RsS
  | some (l, pl) => forGo turn l env pl
  | none => none
theorem s_for {w : Wk} : evS n (.for_ i w ss) env pl = for1 (turnF n i ss) (frzW w env) (evW w env pl) := by
  rw [evS]; cases evW w env pl <;> rfl
theorem s_forT {is : List Nat} {w : Wk} : evS n (.forT is w ss) env pl = for1 (turnT n is ss) (frzW w env) (evW w env pl) := by
  rw [evS]; cases evW w env pl <;> rfl
theorem for1_s {t : D → Env → Pool → RsS} {l : List D} : for1 t env (some (l, pl)) = forGo t l env pl := rfl
theorem turnF_s : turnF n i ss d env pl = evSs n ss (env.set i (.val d)) pl := rfl
theorem turnT_s {is : List Nat} {l : List D} : turnT n is ss (.tup l) env pl = if l.length = is.length then evSs n ss (setAll is l env) pl else none := rfl
theorem s_whl : evS n (.whl c ss) env pl = whGo (evT c) (evSs n ss) n env pl := by rw [evS]
theorem s_brk : evS n .brk env pl = some (.bk, env, pl) := by rw [evS]
theorem s_cnt : evS n .cnt env pl = some (.ct, env, pl) := by rw [evS]
theorem s_pass : evS n .pass env pl = some (.nx, env, pl) := by rw [evS]
theorem frzW_rng : frzW (.rng es) env = env := rfl
theorem frzW_ex : frzW (.ex e) env = frz (varsE e) 0 env := rfl
def evD1 : RsS → RsE
  | some (.nx, _, pl) => some (.non, pl)
  | some (.rt d, _, pl) => some (d, pl)
  | _ => none
theorem d_ev {L : Nat} {p : Bool} {ds : List D} : evD n ss L p ds pl = evD1 (evSs n ss (iniE L p ds) pl) := by
  unfold evD; cases evSs n ss (iniE L p ds) pl with
  | none => rfl
  | some r => obtain ⟨f, r⟩ := r; cases f <;> rfl
theorem d_nx : evD1 (some (.nx, env, pl)) = some (.non, pl) := rfl
theorem d_rt : evD1 (some (.rt d, env, pl)) = some (d, pl) := rfl
theorem d_ite {q : Prop} [Decidable q] {x y : RsS} : evD1 (if q then x else y) = if q then evD1 x else evD1 y := by split <;> rfl
-- pure tests
theorem and_pure {k k2 : Bool} : (if k = true then some (D.bl k2, pl) else some (D.bl k, pl)) = some (D.bl (k && k2), pl) := by cases k <;> rfl
theorem or_pure {k k2 : Bool} : (if k = false then some (D.bl k2, pl) else some (D.bl k, pl)) = some (D.bl (k || k2), pl) := by cases k <;> rfl
theorem tru_bl {k : Bool} : truD (.bl k) = some k := rfl
theorem tru_int {k : Int} : truD (.int k) = some (k != 0) := rfl
theorem tru_non : truD .non = some false := rfl
theorem tru_str {k : List Nat} : truD (.str k) = gd (k.length ≤ 16777216) (!k.isEmpty) := rfl
theorem tru_lst {k : List D} : truD (.lst k) = some (!k.isEmpty) := rfl
theorem tru_tup {k : List D} : truD (.tup k) = some (!k.isEmpty) := rfl
end
end Pu
set_option Elab.async false
set_option linter.all false
set_option maxRecDepth 100000
set_option maxHeartbeats 1000000
namespace Pu
open PySem PySem.Spec PyProof.Rows L2

theorem evD_of {n : Nat} {b : Sts} {L : Nat} {p : Bool} {ds : List D} {pl : Pool} {d : D} {env : Env} {pl' : Pool} (h : evSs n b (iniE L p ds) pl = some (.rt d, env, pl')) : evD n b L p ds pl = some (d, pl') := by
  unfold evD
  rw [h]
  rfl
theorem len_line {n : Nat} (h : n ≤ 16777216) : n ≤ sizeLine := h
theorem len_line1 {n : Nat} (h : n < 16777216) : n < sizeLine := h
/-- a for loop by a word of the turns -/
theorem for_inv {turn : D → Env → Pool → RsS} {Q : Nat → Env → Pool → Prop} {ds : List D} {env : Env} {pl : Pool} (h0 : Q 0 env pl)
    (hs : ∀ i (h : i < ds.length) env pl, Q i env pl → ∃ env' pl', (turn ds[i] env pl = some (.nx, env', pl') ∨ turn ds[i] env pl = some (.ct, env', pl')) ∧ Q (i + 1) env' pl') : ∃ env' pl', forGo turn ds env pl = some (.nx, env', pl') ∧ Q ds.length env' pl' := by
  induction ds generalizing Q env pl with
  | nil => exact ⟨env, pl, rfl, h0⟩
  | cons x xs ih =>
    obtain ⟨e1, p1, ht, h1⟩ := hs 0 (by simp) env pl h0
    obtain ⟨e2, p2, h2, h3⟩ := ih (Q := fun i => Q (i + 1)) h1 fun i hi env pl hq => by
      have := hs (i + 1) (by simpa using hi) env pl hq
      simpa using this
    refine ⟨e2, p2, ?_, h3⟩
    have ht : turn x env pl = some (.nx, e1, p1) ∨ turn x env pl = some (.ct, e1, p1) := ht
    rcases ht with ht | ht <;> (unfold forGo; rw [ht]; exact h2)
def rngD (n : Nat) : List D := (List.range n).map fun k => .int (k : Nat)
theorem rngD_len {n : Nat} : (rngD n).length = n := by simp [rngD]
theorem rngD_get {n i : Nat} (h : i < (rngD n).length) : (rngD n)[i] = .int (i : Nat) := by simp [rngD]
theorem rngL_nat {n : Nat} (h : n < 4611686018427387904) : rngL [.int (n : Nat)] = some (rngD n) := by
  show gd _ _ = _
  rw [gd_pos ⟨by omega, by omega⟩]
  simp [rngD]
theorem rngL_int {n : Int} (h0 : -4611686018427387904 ≤ n) (h : n < 4611686018427387904) : rngL [.int n] = some (rngD n.toNat) := by
  show gd _ _ = _
  rw [gd_pos ⟨by omega, by omega⟩]
  rfl

def b__law_draws : Sts := (.cons (.asg true 2 (.lst .nil)) (.cons (.asg false 3 (.var 0)) (.cons (.for_ 4 (.rng (.cons (.var 1) .nil)) (.cons (.ite (.bools true (.cons (.cmp .GtE (.var 0) (.bin .Pow (.con (.int 10)) (.con (.int 18)))) (.cons (.cmp .Gt (.var 3) (.con (.int 0))) .nil))) (.cons (.app 2 (.bin .Mod (.bi .int (.cons (.var 3) .nil)) (.con (.int 4096)))) (.cons (.asg false 3 (.bin .FloorDiv (.var 3) (.con (.int 4096)))) .nil)) (.cons (.asg false 5 (.bin .Mod (.bi .int (.cons (.bin .Add (.bin .Mult (.var 0) (.con (.int 48271))) (.bin .Mult (.bin .Add (.var 4) (.con (.int 1))) (.con (.int 69621)))) .nil)) (.con (.int 2147483647)))) (.cons (.asg false 5 (.bin .Mod (.bi .int (.cons (.bin .Add (.bin .Add (.bin .Mult (.var 5) (.var 5)) (.bin .Mult (.var 5) (.con (.int 16807)))) (.bin .Mult (.var 4) (.con (.int 7919)))) .nil)) (.con (.int 2147483629)))) (.cons (.asg false 5 (.bin .Mod (.bi .int (.cons (.bin .Add (.bin .Add (.bin .Mult (.var 5) (.var 5)) (.var 0)) (.bin .Mult (.con (.int 13)) (.var 4))) .nil)) (.con (.int 2147483587)))) (.cons (.app 2 (.bin .Mod (.bin .FloorDiv (.var 5) (.con (.int 7))) (.con (.int 4096)))) .nil))))) .nil)) (.cons (.ret (.var 2)) .nil))))
def F__law_draws : Fnc := fun ds pl => evD fuel b__law_draws 6 false ds pl
theorem cmp_ge {a b : Int} : opCmp .GtE (.int a) (.int b) = some (!decide (a < b)) := rfl
theorem cmp_gt {a b : Int} : opCmp .Gt (.int a) (.int b) = some (decide (b < a)) := rfl
theorem cmp_le {a b : Int} : opCmp .LtE (.int a) (.int b) = some (!decide (b < a)) := rfl
theorem cmp_lt {a b : Int} : opCmp .Lt (.int a) (.int b) = some (decide (a < b)) := rfl
theorem eq_i {a b : Int} : opCmp .Eq (.int a) (.int b) = some (a == b) := rfl
theorem eq_s {a b : List Nat} : opCmp .Eq (.str a) (.str b) = some (a == b) := rfl
theorem eq_b {a b : Bool} : opCmp .Eq (.bl a) (.bl b) = some (a == b) := rfl
theorem ne_i {a b : Int} : opCmp .NotEq (.int a) (.int b) = some (!(a == b)) := rfl
theorem ne_s {a b : List Nat} : opCmp .NotEq (.str a) (.str b) = some (!(a == b)) := rfl
theorem ne_b {a b : Bool} : opCmp .NotEq (.bl a) (.bl b) = some (!(a == b)) := rfl
theorem in_c {c : Nat} {b : List Nat} : opCmp .In (.str [c]) (.str b) = some (decide (c ∈ b)) := rfl
theorem nin_c {c : Nat} {b : List Nat} : opCmp .NotIn (.str [c]) (.str b) = some (!decide (c ∈ b)) := rfl
theorem op_add_i {a b : Int} : opBin .Add (.int a) (.int b) = some (.int (a + b)) := rfl
theorem op_add_s {a b : List Nat} : opBin .Add (.str a) (.str b) = gd (a.length + b.length ≤ 16777216) (.str (a ++ b)) := rfl
theorem op_add_t {a b : List D} : opBin .Add (.tup a) (.tup b) = gd (a.length + b.length ≤ 16777216) (.tup (a ++ b)) := rfl
theorem op_add_l {a b : List D} : opBin .Add (.lst a) (.lst b) = gd (a.length + b.length ≤ 16777216) (.lst (a ++ b)) := rfl
theorem op_sub_i {a b : Int} : opBin .Sub (.int a) (.int b) = some (.int (a - b)) := rfl
theorem op_mul_r {a b : Int} (h : -18446744073709551616 < b ∧ b < 18446744073709551616) : opBin .Mult (.int a) (.int b) = some (.int (a * b)) := gd_pos (.inr h)
theorem op_mul_l {a b : Int} (h : -18446744073709551616 < a ∧ a < 18446744073709551616) : opBin .Mult (.int a) (.int b) = some (.int (a * b)) := gd_pos (.inl h)
theorem op_mul_s {a : List Nat} {b : Int} : opBin .Mult (.str a) (.int b) = gd ((-4611686018427387904 ≤ b ∧ b < 4611686018427387904) ∧ a.length * b.toNat ≤ 16777216) (.str (List.replicate b.toNat a).flatten) := rfl
theorem op_div_i {a b : Int} : opBin .FloorDiv (.int a) (.int b) = gd (0 < b ∧ b < 1073741824) (.int (a / b)) := rfl
theorem op_mod_i {a b : Int} : opBin .Mod (.int a) (.int b) = gd (0 < b) (.int (a % b)) := rfl
theorem bi_int {a : Int} : opBi .int [.int a] = some (.int a) := rfl
theorem bi_intb {a : Bool} : opBi .int [.bl a] = some (.int (if a then 1 else 0)) := rfl
theorem len_s {a : List Nat} : opBi .len [.str a] = gd (a.length ≤ 16777216) (.int a.length) := rfl
theorem len_l {a : List D} : opBi .len [.lst a] = some (.int a.length) := rfl
theorem len_t {a : List D} : opBi .len [.tup a] = some (.int a.length) := rfl
theorem bi_list_t {a : List D} : opBi .list [.tup a] = some (.lst a) := rfl
theorem bi_list_l {a : List D} : opBi .list [.lst a] = some (.lst a) := rfl
theorem bi_tuple_t {a : List D} : opBi .tuple [.tup a] = some (.tup a) := rfl
theorem bi_tuple_l {a : List D} : opBi .tuple [.lst a] = some (.tup a) := rfl
theorem bi_min2 {a b : Int} : opBi .min [.int a, .int b] = some (.int (if b < a then b else a)) := rfl
theorem bi_max2 {a b : Int} : opBi .max [.int a, .int b] = some (.int (if b > a then b else a)) := rfl
theorem bi_str_i {a : Int} : opBi .str [.int a] = gd (a.natAbs.log2 < 1920) (.str (decL a)) := rfl
theorem rev_s {a : List Nat} : opRev (.str a) = gd (a.length ≤ 16777216) (.str a.reverse) := rfl
theorem rev_l {a : List D} : opRev (.lst a) = some (.lst a.reverse) := rfl
theorem rev_t {a : List D} : opRev (.tup a) = some (.tup a.reverse) := rfl
theorem sub_l {a : List D} {i : Int} : opSub (.lst a) (.int i) = atI a i := rfl
theorem sub_t {a : List D} {i : Int} : opSub (.tup a) (.int i) = atI a i := rfl
theorem sub_s {a : List Nat} {i : Int} (h : a.length ≤ 16777216) : opSub (.str a) (.int i) = (atI a i).map fun c => .str [c] := if_pos h
theorem sl_l {a : List D} {lo hi : Option Int} : opSl (.lst a) lo hi = some (.lst (cutL a lo hi)) := rfl
theorem sl_t {a : List D} {lo hi : Option Int} : opSl (.tup a) lo hi = some (.tup (cutL a lo hi)) := rfl
theorem sl_s {a : List Nat} {lo hi : Option Int} : opSl (.str a) lo hi = gd (a.length ≤ 16777216) (.str (cutL a lo hi)) := rfl
theorem atI_nat {α : Type} {a : List α} {n : Nat} : atI a (n : Int) = a[n]? := by
  unfold atI ixN
  rw [if_pos (by omega)]
  by_cases h : n < a.length
  · rw [if_pos (by omega)]
    rfl
  · rw [if_neg (by omega), List.getElem?_eq_none (by omega)]
    rfl
theorem atI_nn {α : Type} {a : List α} {i : Int} (h : 0 ≤ i) : atI a i = a[i.toNat]? := by
  obtain ⟨n, rfl⟩ := Int.eq_ofNat_of_zero_le h
  exact atI_nat
theorem atI_ng {α : Type} {a : List α} {n : Nat} (h : n < a.length) : atI a (-((n : Int) + 1)) = a[a.length - 1 - n]? := by
  unfold atI ixN
  rw [if_neg (by omega), if_pos (by omega)]
  show a[(-((n : Int) + 1) + a.length).toNat]? = _
  congr 1
  omega
theorem at0 {α : Type} {x : α} {a : List α} : atI (x :: a) 0 = some x := by
  have : atI (x :: a) ((0 : Nat) : Int) = _ := atI_nat
  exact this
theorem at1 {α : Type} {x y : α} {a : List α} : atI (x :: y :: a) 1 = some y := by
  have : atI (x :: y :: a) ((1 : Nat) : Int) = _ := atI_nat
  exact this
theorem at2 {α : Type} {x y z : α} {a : List α} : atI (x :: y :: z :: a) 2 = some z := by
  have : atI (x :: y :: z :: a) ((2 : Nat) : Int) = _ := atI_nat
  exact this
theorem at3 {α : Type} {x y z u : α} {a : List α} : atI (x :: y :: z :: u :: a) 3 = some u := by
  have : atI (x :: y :: z :: u :: a) ((3 : Nat) : Int) = _ := atI_nat
  exact this
theorem sIx_nat {n d i : Nat} : HT.sIx n d (some (i : Int)) = min i n := by
  unfold HT.sIx
  simp only []
  split <;> omega
theorem cut_lo {α : Type} {a : List α} {i : Nat} : cutL a (some (i : Int)) none = a.drop i := by
  unfold cutL
  rw [sIx_nat]
  have e : HT.sIx a.length a.length none = a.length := rfl
  rw [e]
  by_cases h : i ≤ a.length
  · rw [Nat.min_eq_left h, List.take_of_length_le (by simp)]
  · rw [Nat.min_eq_right (by omega), List.drop_length, List.drop_eq_nil_of_le (by omega)]
    simp
theorem cut_hi {α : Type} {a : List α} {i : Nat} : cutL a none (some (i : Int)) = a.take i := by
  unfold cutL
  rw [sIx_nat]
  have e : HT.sIx a.length 0 none = 0 := rfl
  rw [e, List.drop_zero, Nat.sub_zero]
  by_cases h : i ≤ a.length
  · rw [Nat.min_eq_left h]
  · rw [Nat.min_eq_right (by omega), List.take_length, List.take_of_length_le (by omega)]
theorem cut_both {α : Type} {a : List α} {i j : Nat} : cutL a (some (i : Int)) (some (j : Int)) = (a.drop i).take (j - i) := by
  unfold cutL
  rw [sIx_nat, sIx_nat]
  by_cases h : i ≤ a.length
  · rw [Nat.min_eq_left h]
    by_cases h2 : j ≤ a.length
    · rw [Nat.min_eq_left h2]
    · rw [Nat.min_eq_right (a := j) (by omega), List.take_of_length_le (by simp), List.take_of_length_le (by simp; omega)]
  · rw [List.drop_eq_nil_of_le (as := a) (i := min i a.length) (by omega), List.drop_eq_nil_of_le (as := a) (i := i) (by omega)]
    simp
theorem cut_loI {α : Type} {a : List α} {i : Int} (h : 0 ≤ i) : cutL a (some i) none = a.drop i.toNat := by
  obtain ⟨n, rfl⟩ := Int.eq_ofNat_of_zero_le h
  exact cut_lo
theorem cut_hiI {α : Type} {a : List α} {i : Int} (h : 0 ≤ i) : cutL a none (some i) = a.take i.toNat := by
  obtain ⟨n, rfl⟩ := Int.eq_ofNat_of_zero_le h
  exact cut_hi
theorem cut_init {α : Type} {a : List α} : cutL a none (some (-1)) = a.dropLast := by
  unfold cutL
  have e : HT.sIx a.length 0 none = 0 := rfl
  rw [e, List.drop_zero, Nat.sub_zero, List.dropLast_eq_take]
  congr 1
  unfold HT.sIx
  simp only []
  split <;> omega
theorem cut_last {α : Type} {a : List α} : cutL a (some (-1)) none = a.drop (a.length - 1) := by
  unfold cutL
  have e : HT.sIx a.length a.length none = a.length := rfl
  rw [e]
  have e2 : HT.sIx a.length 0 (some (-1)) = a.length - 1 := by
    unfold HT.sIx
    simp only []
    split <;> omega
  rw [e2, List.take_of_length_le (by simp)]
-- comprehensions by a word of the turns
def lct1 : RsE → Option (Option D × Pool)
  | some (d, pl) => some (some d, pl)
  | none => none
def lct2 (e : Ex) (env : Env) : RsE → Option (Option D × Pool)
  | some (d, pl) => lct3 e env pl (truD d)
  | none => none
where lct3 (e : Ex) (env : Env) (pl : Pool) : Option Bool → Option (Option D × Pool)
  | some k => if k = true then lct1 (evE e env pl) else some (none, pl)
  | none => none
theorem lct_no {i : Nat} {e : Ex} {env : Env} {x : D} {pl : Pool} : lcTurn i .no e env x pl = lct1 (evE e (env.set i (.val x)) pl) := by
  unfold lcTurn; simp only []; cases evE e (env.set i (.val x)) pl <;> rfl
theorem lct_yes {i : Nat} {c e : Ex} {env : Env} {x : D} {pl : Pool} : lcTurn i (.yes c) e env x pl = lct2 e (env.set i (.val x)) (evE c (env.set i (.val x)) pl) := by
  unfold lcTurn
  simp only []
  cases evE c (env.set i (.val x)) pl with
  | none => rfl
  | some r =>
    obtain ⟨d, pl⟩ := r
    show (truD d).bind _ = lct2.lct3 _ _ _ (truD d)
    cases truD d with
    | none => rfl
    | some k =>
      cases k with
      | false => rfl
      | true => show (evE e _ pl).map _ = lct1 _; cases evE e (env.set i (.val x)) pl <;> rfl
theorem lct1_s {d : D} {pl : Pool} : lct1 (some (d, pl)) = some (some d, pl) := rfl
theorem lct2_s {e : Ex} {env : Env} {d : D} {pl : Pool} : lct2 e env (some (d, pl)) = lct2.lct3 e env pl (truD d) := rfl
theorem lct3_s {e : Ex} {env : Env} {k : Bool} {pl : Pool} : lct2.lct3 e env pl (some k) = if k = true then lct1 (evE e env pl) else some (none, pl) := rfl
theorem lctP_no {is : List Nat} {e : Ex} {env : Env} {ds : List D} {pl : Pool} (h : ds.length = is.length) : lcTurnP (.tp is) .no e env (.tup ds) pl = lct1 (evE e (setAll is ds env) pl) := by
  show ((if ds.length = is.length then some (setAll is ds env) else none).bind fun env1 => _) = _
  rw [if_pos h]
  show (evE e (setAll is ds env) pl).map _ = _
  cases evE e (setAll is ds env) pl <;> rfl
theorem lctP_yes {is : List Nat} {c e : Ex} {env : Env} {ds : List D} {pl : Pool} (h : ds.length = is.length) : lcTurnP (.tp is) (.yes c) e env (.tup ds) pl = lct2 e (setAll is ds env) (evE c (setAll is ds env) pl) := by
  show ((if ds.length = is.length then some (setAll is ds env) else none).bind fun env1 => _) = _
  rw [if_pos h]
  show (evE c (setAll is ds env) pl).bind _ = _
  cases evE c (setAll is ds env) pl with
  | none => rfl
  | some r =>
    obtain ⟨d, pl⟩ := r
    show (truD d).bind _ = lct2.lct3 _ _ _ (truD d)
    cases truD d with
    | none => rfl
    | some k =>
      cases k with
      | false => rfl
      | true => show (evE e _ pl).map _ = lct1 _; cases evE e (setAll is ds env) pl <;> rfl
theorem lctP_nm {i : Nat} {cd : OEx} {e : Ex} {env : Env} : lcTurnP (.nm i) cd e env = lcTurn i cd e env := rfl
def l2t1 (t2 : Tgt) (cd : OEx) (e : Ex) (env : Env) : RsA → Option (List D × Pool)
  | some (l, pl) => lcGo (lcTurnP t2 cd e env) l pl
  | none => none
theorem l2T_nm {i : Nat} {t2 : Tgt} {w : Wk} {cd : OEx} {e : Ex} {env : Env} {x : D} {pl : Pool} : lc2Turn (.nm i) t2 w cd e env x pl = l2t1 t2 cd e ((wipeE (i :: t2.ix) env).set i (.val x)) (evW w ((wipeE (i :: t2.ix) env).set i (.val x)) pl) := by
  show (evW w ((wipeE (i :: t2.ix) env).set i (.val x)) pl).bind _ = _
  cases evW w ((wipeE (i :: t2.ix) env).set i (.val x)) pl <;> rfl
theorem l2t1_s {t2 : Tgt} {cd : OEx} {e : Ex} {env : Env} {l : List D} {pl : Pool} : l2t1 t2 cd e env (some (l, pl)) = lcGo (lcTurnP t2 cd e env) l pl := rfl
theorem ix_nm {i : Nat} : (Tgt.nm i).ix = [i] := rfl
theorem ix_tp {is : List Nat} : (Tgt.tp is).ix = is := rfl
theorem lcAll_pure {turn : D → Pool → Option (List D × Pool)} {g : D → List D} {pl : Pool} : ∀ {ds : List D}, (∀ x ∈ ds, turn x pl = some (g x, pl)) → lcAll turn ds pl = some (ds.flatMap g, pl)
  | [], _ => rfl
  | x :: xs, h => by
    have ih := lcAll_pure (ds := xs) fun y hy => h y (List.mem_cons_of_mem _ hy)
    unfold lcAll
    rw [h x List.mem_cons_self, Option.bind_some, ih, List.flatMap_cons]
    rfl
theorem lc_inv {turn : D → Pool → Option (Option D × Pool)} {Q : Nat → List D → Pool → Prop} {ds : List D} {pl : Pool} (h0 : Q 0 [] pl)
    (hs : ∀ i (h : i < ds.length) acc pl, Q i acc pl → ∃ o pl', turn ds[i] pl = some (o, pl') ∧ Q (i + 1) (acc ++ o.toList) pl') : ∃ l pl', lcGo turn ds pl = some (l, pl') ∧ Q ds.length l pl' := by
  suffices h : ∀ (ds : List D) (Q : Nat → List D → Pool → Prop) (acc : List D) (pl : Pool), Q 0 acc pl → (∀ i (h : i < ds.length) acc pl, Q i acc pl → ∃ o pl', turn ds[i] pl = some (o, pl') ∧ Q (i + 1) (acc ++ o.toList) pl') →
      ∃ l pl', lcGo turn ds pl = some (l, pl') ∧ Q ds.length (acc ++ l) pl' by
    obtain ⟨l, pl', h1, h2⟩ := h ds Q [] pl h0 hs
    exact ⟨l, pl', h1, h2⟩
  clear h0 hs
  intro ds
  induction ds with
  | nil => intro Q acc pl h0 _; exact ⟨[], pl, rfl, by rw [List.append_nil]; exact h0⟩
  | cons x xs ih =>
    intro Q acc pl h0 hs
    obtain ⟨o, p1, e1, h1⟩ := hs 0 (by simp) acc pl h0
    obtain ⟨l, p2, e2, h2⟩ := ih (fun i => Q (i + 1)) _ p1 h1 fun i hi acc pl hq => by
      have := hs (i + 1) (by simpa using hi) acc pl hq
      simpa using this
    have e1 : turn x pl = some (o, p1) := e1
    refine ⟨o.toList ++ l, p2, ?_, by rw [← List.append_assoc]; exact h2⟩
    unfold lcGo
    rw [e1, Option.bind_some, e2]
    rfl
theorem lc_pure {turn : D → Pool → Option (Option D × Pool)} {g : D → Option D} {pl : Pool} : ∀ {ds : List D}, (∀ x ∈ ds, turn x pl = some (g x, pl)) → lcGo turn ds pl = some (ds.filterMap g, pl)
  | [], _ => rfl
  | x :: xs, h => by
    have ih := lc_pure (ds := xs) fun y hy => h y (List.mem_cons_of_mem _ hy)
    unfold lcGo
    rw [h x List.mem_cons_self, Option.bind_some, ih, List.filterMap_cons]
    cases g x <;> rfl
theorem lc_map {turn : D → Pool → Option (Option D × Pool)} {g : D → D} {pl : Pool} {ds : List D} (h : ∀ x ∈ ds, turn x pl = some (some (g x), pl)) : lcGo turn ds pl = some (ds.map g, pl) := by
  rw [lc_pure (g := fun x => some (g x)) h, List.filterMap_eq_map']
theorem lc_filter {turn : D → Pool → Option (Option D × Pool)} {p : D → Bool} {pl : Pool} {ds : List D} (h : ∀ x ∈ ds, turn x pl = if p x = true then some (some x, pl) else some (none, pl)) : lcGo turn ds pl = some (ds.filter p, pl) := by
  rw [lc_pure (g := fun x => if p x = true then some x else none) fun x hx => by rw [h x hx]; split <;> rfl]
  congr 1
  congr 1
  clear h
  induction ds with
  | nil => rfl
  | cons x xs ih =>
    rw [List.filterMap_cons, List.filter_cons]
    by_cases hp : p x = true
    · rw [if_pos hp, if_pos hp, ih]
    · rw [if_neg hp, if_neg hp, ih]
-- ''.join
theorem strs_map : ∀ {l : List (List Nat)}, strsOf (l.map .str) = some l
  | [] => rfl
  | x :: l => by rw [List.map_cons, strsOf, strs_map]; rfl
theorem joinL_nil : ∀ {l : List (List Nat)}, TL.joinL [] l = l.flatten
  | [] => rfl
  | [x] => by simp [TL.joinL]
  | x :: y :: l => by
    have := joinL_nil (l := y :: l)
    simp only [TL.joinL] at this ⊢
    simp [this]
theorem join_c {l : List Nat} (h : l.length ≤ 16777216) : opMe .join (.str []) [.lst (l.map fun c => .str [c])] = some (.str l) := by
  have e : (l.map fun c => D.str [c]) = (l.map fun c => [c]).map .str := by rw [List.map_map]; rfl
  have hl : ((l.map fun c => [c]).map fun z => z.length).sum = l.length := by
    clear h e
    induction l with
    | nil => rfl
    | cons a l ih => simp only [List.map_cons, List.sum_cons, ih, List.length_cons, List.length_nil]; omega
  rw [e]
  show (strsOf ((l.map fun c => [c]).map .str)).bind _ = _
  rw [strs_map, Option.bind_some, gd_pos (by rw [hl]; simpa using h), joinL_nil]
  congr 2
  clear h e hl
  induction l with
  | nil => rfl
  | cons a l ih => rw [List.map_cons, List.flatten_cons, ih]; rfl

theorem draws_turn (c : Int) (k : Nat) (hk : k < 20) (l : List Int) (hl : l.length < 100) (left : Int) (s4 s5 : Slot) (pl : Pool) : ∃ (x left' : Int) (s5' : Slot), 0 ≤ x ∧ x < 4096 ∧
    turnF fuel 4 (.cons (.ite (.bools true (.cons (.cmp .GtE (.var 0) (.bin .Pow (.con (.int 10)) (.con (.int 18)))) (.cons (.cmp .Gt (.var 3) (.con (.int 0))) .nil))) (.cons (.app 2 (.bin .Mod (.bi .int (.cons (.var 3) .nil)) (.con (.int 4096)))) (.cons (.asg false 3 (.bin .FloorDiv (.var 3) (.con (.int 4096)))) .nil)) (.cons (.asg false 5 (.bin .Mod (.bi .int (.cons (.bin .Add (.bin .Mult (.var 0) (.con (.int 48271))) (.bin .Mult (.bin .Add (.var 4) (.con (.int 1))) (.con (.int 69621)))) .nil)) (.con (.int 2147483647)))) (.cons (.asg false 5 (.bin .Mod (.bi .int (.cons (.bin .Add (.bin .Add (.bin .Mult (.var 5) (.var 5)) (.bin .Mult (.var 5) (.con (.int 16807)))) (.bin .Mult (.var 4) (.con (.int 7919)))) .nil)) (.con (.int 2147483629)))) (.cons (.asg false 5 (.bin .Mod (.bi .int (.cons (.bin .Add (.bin .Add (.bin .Mult (.var 5) (.var 5)) (.var 0)) (.bin .Mult (.con (.int 13)) (.var 4))) .nil)) (.con (.int 2147483587)))) (.cons (.app 2 (.bin .Mod (.bin .FloorDiv (.var 5) (.con (.int 7))) (.con (.int 4096)))) .nil))))) .nil)
      (.int (k : Nat)) [.val (.int c), .val (.int 20), .own (l.map .int), .val (.int left), s4, s5] pl = some (.nx, [.val (.int c), .val (.int 20), .own ((l ++ [x]).map .int), .val (.int left'), .val (.int (k : Nat)), s5'], pl) := by
  have hpow : opBin .Pow (.int 10) (.int 18) = some (.int 1000000000000000000) := rfl
  by_cases h1 : c < 1000000000000000000 <;> by_cases h2 : 0 < left
  all_goals
    simp (disch := omega) only [gd_T, e_con, e_glob, e_var, rd_val, rd_own, e_bin, bin1_s, bin2_s, e_neg, neg1_s, e_cmp, cmp1_s, cmp2_s, e_chn, chn1_s, chn2_s, chn3_s, e_isK, isK1_s, e_bools, b_last, b_more, bolC_s, bolD_s, e_not, not1_s, e_ite, ite1_s, ite2_s, es_nil, es_cons, es1_s, es2_s, e_tup, e_lst, tup1_s, lst1_s,
 e_sub, sub1_s, sub2_s, o_none, o_some, o1_s, e_sl, sl1_s, sl2_s, sl3_s, e_rev, rev1_s, e_call, call1_s, e_callP, callP1_s, e_bi, bi1_s, e_me, me1_s, me2_s, e_isi, isi1_s, w_rngE, rng1_s, w_exE, wlk1_s, prL_some, walk_lst, walk_tup, walk_str, e_lc, lc1_s, lc2_s, e_lcP, lcP1_s, e_lc2, lcD1_s, e_lrng, lrng1_s, lrng2_s, e_sset, sset1_s, sset2_s, wipeE_nil, wipeE_cons, t_ev, tst1_s, ss_nil, ss_cons, seq_nx, seq_rt, seq_bk, seq_ct, seq_ite,
 s_asgV, s_asgO, asgV_s, asgO_s, settle_t, settle_c, frz_nil, frz_val, frz_none, frz_pool, frz_own, n_non, n_bl, n_int, n_str, n_lst, n_tup, n_nil, n_cons, s_unp, unp1_s, s_parE, par1_s, setAll_nil, setAll_cons, s_aug, aug1_s, aug2_i, aug2_t, aug3_s, s_app, app1_s, app2_s, s_ret, ret1_s, ret1_ite, s_if, if1_s, s_for, s_forT, for1_s, turnF_s, turnT_s, s_brk, s_cnt, s_pass, frzW_rng, frzW_ex,
 d_ev, d_nx, d_rt, d_ite, and_pure, or_pure, tru_bl, tru_int, tru_non, tru_str, tru_lst, tru_tup, pr_some, pr_gd, prB_some, prT_some, iniE, lawE, List.getElem?_cons_zero, List.getElem?_cons_succ, List.getElem?_nil, List.set_cons_zero, List.set_cons_succ, List.set_nil, List.map_cons, List.map_nil, List.nil_append, List.cons_append, List.append_nil, List.length_cons, List.length_nil, Nat.zero_le, Nat.reduceLeDiff, Nat.reduceAdd, List.replicate, ite_true, ite_false, if_true, if_false, Bool.false_eq_true, reduceIte, reduceCtorEq, ite_self, Bool.true_and, Bool.and_true, Bool.not_true, Bool.not_false, Bool.not_not, Option.map_some, Option.map_none, Pu.sizeLine_eq, hpow, cmp_ge, cmp_gt, op_add_i, op_div_i, op_mod_i, op_mul_r, op_mul_l, bi_int, gd_pos, h1, h2, decide_true, decide_false, List.length_map, List.map_append]
    exact ⟨_, _, _, Int.emod_nonneg _ (by decide), Int.emod_lt_of_pos _ (by decide), rfl⟩
theorem draws_ok : DrawsOk F__law_draws := by
  intro c
  have lp := for_inv (turn := turnF fuel 4 (.cons (.ite (.bools true (.cons (.cmp .GtE (.var 0) (.bin .Pow (.con (.int 10)) (.con (.int 18)))) (.cons (.cmp .Gt (.var 3) (.con (.int 0))) .nil))) (.cons (.app 2 (.bin .Mod (.bi .int (.cons (.var 3) .nil)) (.con (.int 4096)))) (.cons (.asg false 3 (.bin .FloorDiv (.var 3) (.con (.int 4096)))) .nil)) (.cons (.asg false 5 (.bin .Mod (.bi .int (.cons (.bin .Add (.bin .Mult (.var 0) (.con (.int 48271))) (.bin .Mult (.bin .Add (.var 4) (.con (.int 1))) (.con (.int 69621)))) .nil)) (.con (.int 2147483647)))) (.cons (.asg false 5 (.bin .Mod (.bi .int (.cons (.bin .Add (.bin .Add (.bin .Mult (.var 5) (.var 5)) (.bin .Mult (.var 5) (.con (.int 16807)))) (.bin .Mult (.var 4) (.con (.int 7919)))) .nil)) (.con (.int 2147483629)))) (.cons (.asg false 5 (.bin .Mod (.bi .int (.cons (.bin .Add (.bin .Add (.bin .Mult (.var 5) (.var 5)) (.var 0)) (.bin .Mult (.con (.int 13)) (.var 4))) .nil)) (.con (.int 2147483587)))) (.cons (.app 2 (.bin .Mod (.bin .FloorDiv (.var 5) (.con (.int 7))) (.con (.int 4096)))) .nil))))) .nil)) (ds := rngD 20) (env := [.val (.int c), .val (.int 20), .own [], .val (.int c), .none, .none]) (pl := none)
    (Q := fun i env pl => pl = none ∧ ∃ (l : List Int) (left : Int) (s4 s5 : Slot), l.length = i ∧ (∀ x ∈ l, 0 ≤ x ∧ x < 4096) ∧ env = [.val (.int c), .val (.int 20), .own (l.map .int), .val (.int left), s4, s5])
    ⟨rfl, [], c, .none, .none, rfl, (fun x hx => by cases hx), rfl⟩ (fun i hi env pl hq => by
      obtain ⟨rfl, l, left, s4, s5, h1, h2, rfl⟩ := hq
      rw [rngD_get]
      rw [rngD_len] at hi
      obtain ⟨x, left', s5', g1, g2, g3⟩ := draws_turn c i hi l (by omega) left s4 s5 none
      exact ⟨_, _, .inl g3, rfl, _, _, _, _, by rw [List.length_append, h1]; rfl, fun y hy => (List.mem_append.mp hy).elim (h2 y) fun z => by
        cases List.mem_singleton.mp z
        exact ⟨g1, g2⟩, rfl⟩)
  obtain ⟨env', pl', e1, rfl, l, left, s4, s5, h1, h2, rfl⟩ := lp
  refine ⟨l, by rw [h1, rngD_len], h2, ?_⟩
  unfold F__law_draws b__law_draws
  simp only [gd_T, e_con, e_glob, e_var, rd_val, rd_own, e_bin, bin1_s, bin2_s, e_neg, neg1_s, e_cmp, cmp1_s, cmp2_s, e_chn, chn1_s, chn2_s, chn3_s, e_isK, isK1_s, e_bools, b_last, b_more, bolC_s, bolD_s, e_not, not1_s, e_ite, ite1_s, ite2_s, es_nil, es_cons, es1_s, es2_s, e_tup, e_lst, tup1_s, lst1_s,
 e_sub, sub1_s, sub2_s, o_none, o_some, o1_s, e_sl, sl1_s, sl2_s, sl3_s, e_rev, rev1_s, e_call, call1_s, e_callP, callP1_s, e_bi, bi1_s, e_me, me1_s, me2_s, e_isi, isi1_s, w_rngE, rng1_s, w_exE, wlk1_s, prL_some, walk_lst, walk_tup, walk_str, e_lc, lc1_s, lc2_s, e_lcP, lcP1_s, e_lc2, lcD1_s, e_lrng, lrng1_s, lrng2_s, e_sset, sset1_s, sset2_s, wipeE_nil, wipeE_cons, t_ev, tst1_s, ss_nil, ss_cons, seq_nx, seq_rt, seq_bk, seq_ct, seq_ite,
 s_asgV, s_asgO, asgV_s, asgO_s, settle_t, settle_c, frz_nil, frz_val, frz_none, frz_pool, frz_own, n_non, n_bl, n_int, n_str, n_lst, n_tup, n_nil, n_cons, s_unp, unp1_s, s_parE, par1_s, setAll_nil, setAll_cons, s_aug, aug1_s, aug2_i, aug2_t, aug3_s, s_app, app1_s, app2_s, s_ret, ret1_s, ret1_ite, s_if, if1_s, s_for, s_forT, for1_s, turnF_s, turnT_s, s_brk, s_cnt, s_pass, frzW_rng, frzW_ex,
 d_ev, d_nx, d_rt, d_ite, and_pure, or_pure, tru_bl, tru_int, tru_non, tru_str, tru_lst, tru_tup, pr_some, pr_gd, prB_some, prT_some, iniE, lawE, List.getElem?_cons_zero, List.getElem?_cons_succ, List.getElem?_nil, List.set_cons_zero, List.set_cons_succ, List.set_nil, List.map_cons, List.map_nil, List.nil_append, List.cons_append, List.append_nil, List.length_cons, List.length_nil, Nat.zero_le, Nat.reduceLeDiff, Nat.reduceAdd, List.replicate, ite_true, ite_false, if_true, if_false, Bool.false_eq_true, reduceIte, reduceCtorEq, ite_self, Bool.true_and, Bool.and_true, Bool.not_true, Bool.not_false, Bool.not_not, Option.map_some, Option.map_none, Pu.sizeLine_eq, rngL_int (n := 20) (by decide) (by decide)]
  have e20 : Int.toNat 20 = 20 := rfl
  rw [e20, e1]
  simp only [gd_T, e_con, e_glob, e_var, rd_val, rd_own, e_bin, bin1_s, bin2_s, e_neg, neg1_s, e_cmp, cmp1_s, cmp2_s, e_chn, chn1_s, chn2_s, chn3_s, e_isK, isK1_s, e_bools, b_last, b_more, bolC_s, bolD_s, e_not, not1_s, e_ite, ite1_s, ite2_s, es_nil, es_cons, es1_s, es2_s, e_tup, e_lst, tup1_s, lst1_s,
 e_sub, sub1_s, sub2_s, o_none, o_some, o1_s, e_sl, sl1_s, sl2_s, sl3_s, e_rev, rev1_s, e_call, call1_s, e_callP, callP1_s, e_bi, bi1_s, e_me, me1_s, me2_s, e_isi, isi1_s, w_rngE, rng1_s, w_exE, wlk1_s, prL_some, walk_lst, walk_tup, walk_str, e_lc, lc1_s, lc2_s, e_lcP, lcP1_s, e_lc2, lcD1_s, e_lrng, lrng1_s, lrng2_s, e_sset, sset1_s, sset2_s, wipeE_nil, wipeE_cons, t_ev, tst1_s, ss_nil, ss_cons, seq_nx, seq_rt, seq_bk, seq_ct, seq_ite,
 s_asgV, s_asgO, asgV_s, asgO_s, settle_t, settle_c, frz_nil, frz_val, frz_none, frz_pool, frz_own, n_non, n_bl, n_int, n_str, n_lst, n_tup, n_nil, n_cons, s_unp, unp1_s, s_parE, par1_s, setAll_nil, setAll_cons, s_aug, aug1_s, aug2_i, aug2_t, aug3_s, s_app, app1_s, app2_s, s_ret, ret1_s, ret1_ite, s_if, if1_s, s_for, s_forT, for1_s, turnF_s, turnT_s, s_brk, s_cnt, s_pass, frzW_rng, frzW_ex,
 d_ev, d_nx, d_rt, d_ite, and_pure, or_pure, tru_bl, tru_int, tru_non, tru_str, tru_lst, tru_tup, pr_some, pr_gd, prB_some, prT_some, iniE, lawE, List.getElem?_cons_zero, List.getElem?_cons_succ, List.getElem?_nil, List.set_cons_zero, List.set_cons_succ, List.set_nil, List.map_cons, List.map_nil, List.nil_append, List.cons_append, List.append_nil, List.length_cons, List.length_nil, Nat.zero_le, Nat.reduceLeDiff, Nat.reduceAdd, List.replicate, ite_true, ite_false, if_true, if_false, Bool.false_eq_true, reduceIte, reduceCtorEq, ite_self, Bool.true_and, Bool.and_true, Bool.not_true, Bool.not_false, Bool.not_not, Option.map_some, Option.map_none, Pu.sizeLine_eq]
end Pu
set_option Elab.async false
set_option linter.all false
set_option maxRecDepth 100000
set_option maxHeartbeats 1000000
namespace Pu
open PySem PySem.Spec PyProof.Rows L2

/-! ### the laws' own helpers -/
def GP (m : Nat) (pl : Pool) : Prop := ∃ ps : PoolS, pl = some ps ∧ Rows80 ps.rows ∧ ps.at_ ≤ m
theorem GP.mono {m k : Nat} {pl : Pool} (h : GP m pl) (hk : m ≤ k) : GP k pl := by
  obtain ⟨ps, h1, h2, h3⟩ := h
  exact ⟨ps, h1, h2, Nat.le_trans h3 hk⟩
theorem GP.start {rows : List Int} (h : Rows80 rows) : GP 0 (some ⟨rows, 0⟩) := ⟨_, rfl, h, Nat.le_refl _⟩
theorem pick_ok {m : Nat} {pl : Pool} {a : Int} (g : GP m pl) (hm : m < 1000000000000) (ha : 0 < a) : ∃ r pl', 0 ≤ r ∧ r < a ∧ GP (m + 1) pl' ∧ F_pick [.int a] pl = some (.int r, pl') := by
  obtain ⟨ps, rfl, h1, h2⟩ := g
  have hp := h1.pos
  have hk := h1.most
  have hlt : ps.at_ % ps.rows.length < ps.rows.length := Nat.mod_lt _ hp
  refine ⟨(ps.rows[ps.at_ % ps.rows.length] + ((ps.at_ / ps.rows.length : Nat) : Int) * 1009 + ((ps.at_ / ps.rows.length : Nat) : Int) * (ps.at_ : Int)) % a, some { ps with at_ := ps.at_ + 1 }, Int.emod_nonneg _ (by omega), Int.emod_lt_of_pos _ ha, ⟨_, rfl, h1, by show ps.at_ + 1 ≤ m + 1; omega⟩, ?_⟩
  show (if _ then _ else _) = _
  rw [if_pos ⟨hp, by omega, by omega, ha⟩, List.getElem?_eq_getElem hlt]
  rfl
abbrev F__law_pick : Fnc := F_pick
def b__law_draw_list : Sts := (.cons (.ret (.lc 1 (.rng (.cons (.con (.int 40)) .nil)) .no (.callP "_law_pick" 1 F__law_pick 0 (.cons (.con (.int 4096)) .nil)))) .nil)
def F__law_draw_list : Fnc := fun ds pl => evD fuel b__law_draw_list 2 true ds pl
structure Draws (l : List Int) : Prop where
  len : l.length = 40
  all : ∀ x ∈ l, 0 ≤ x ∧ x < 4096
theorem draw_list_ok {m : Nat} {pl : Pool} (g : GP m pl) (hm : m < 100000000000) : ∃ l pl', Draws l ∧ GP (m + 40) pl' ∧ F__law_draw_list [] pl = some (.lst (l.map .int), pl') := by
  have lp := lc_inv (turn := lcTurn 1 .no (.callP "_law_pick" 1 F__law_pick 0 (.cons (.con (.int 4096)) .nil)) [.pool, .none]) (ds := rngD 40) (pl := pl)
    (Q := fun i acc pl => ∃ l : List Int, acc = l.map .int ∧ l.length = i ∧ (∀ x ∈ l, 0 ≤ x ∧ x < 4096) ∧ GP (m + i) pl) ⟨[], rfl, rfl, (fun x hx => by cases hx), g⟩ (fun i hi acc pl hq => by
      obtain ⟨l, rfl, h1, h2, h3⟩ := hq
      rw [rngD_len] at hi
      obtain ⟨r, pl', r1, r2, r3, r4⟩ := pick_ok (a := 4096) h3 (by omega) (by decide)
      refine ⟨some (.int r), pl', ?_, l ++ [r], by simp, by simp [h1], fun x hx => (List.mem_append.mp hx).elim (h2 x) fun z => by cases List.mem_singleton.mp z; exact ⟨r1, r2⟩, r3⟩
      simp only [gd_T, e_con, e_glob, e_var, rd_val, rd_own, e_bin, bin1_s, bin2_s, e_neg, neg1_s, e_cmp, cmp1_s, cmp2_s, e_chn, chn1_s, chn2_s, chn3_s, e_isK, isK1_s, e_bools, b_last, b_more, bolC_s, bolD_s, e_not, not1_s, e_ite, ite1_s, ite2_s, es_nil, es_cons, es1_s, es2_s, e_tup, e_lst, tup1_s, lst1_s,
 e_sub, sub1_s, sub2_s, o_none, o_some, o1_s, e_sl, sl1_s, sl2_s, sl3_s, e_rev, rev1_s, e_call, call1_s, e_callP, callP1_s, e_bi, bi1_s, e_me, me1_s, me2_s, e_isi, isi1_s, w_rngE, rng1_s, w_exE, wlk1_s, prL_some, walk_lst, walk_tup, walk_str, e_lc, lc1_s, lc2_s, e_lcP, lcP1_s, e_lc2, lcD1_s, e_lrng, lrng1_s, lrng2_s, e_sset, sset1_s, sset2_s, wipeE_nil, wipeE_cons, t_ev, tst1_s, ss_nil, ss_cons, seq_nx, seq_rt, seq_bk, seq_ct, seq_ite,
 s_asgV, s_asgO, asgV_s, asgO_s, settle_t, settle_c, frz_nil, frz_val, frz_none, frz_pool, frz_own, n_non, n_bl, n_int, n_str, n_lst, n_tup, n_nil, n_cons, s_unp, unp1_s, s_parE, par1_s, setAll_nil, setAll_cons, s_aug, aug1_s, aug2_i, aug2_t, aug3_s, s_app, app1_s, app2_s, s_ret, ret1_s, ret1_ite, s_if, if1_s, s_for, s_forT, for1_s, turnF_s, turnT_s, s_brk, s_cnt, s_pass, frzW_rng, frzW_ex,
 d_ev, d_nx, d_rt, d_ite, and_pure, or_pure, tru_bl, tru_int, tru_non, tru_str, tru_lst, tru_tup, pr_some, pr_gd, prB_some, prT_some, iniE, lawE, List.getElem?_cons_zero, List.getElem?_cons_succ, List.getElem?_nil, List.set_cons_zero, List.set_cons_succ, List.set_nil, List.map_cons, List.map_nil, List.nil_append, List.cons_append, List.append_nil, List.length_cons, List.length_nil, Nat.zero_le, Nat.reduceLeDiff, Nat.reduceAdd, List.replicate, ite_true, ite_false, if_true, if_false, Bool.false_eq_true, reduceIte, reduceCtorEq, ite_self, Bool.true_and, Bool.and_true, Bool.not_true, Bool.not_false, Bool.not_not, Option.map_some, Option.map_none, Pu.sizeLine_eq, cmp_ge, cmp_gt, cmp_le, cmp_lt, eq_i, eq_s, eq_b, ne_i, ne_s, ne_b, in_c, nin_c, op_add_i, op_add_s, op_add_t, op_add_l, op_sub_i, op_mul_r, op_mul_l, op_div_i, op_mod_i, bi_int, bi_intb, len_s, len_l, len_t, bi_list_t, bi_list_l, bi_tuple_t, bi_tuple_l, bi_min2, bi_max2, rev_s, rev_l, rev_t, sub_l, sub_t, sub_s, sl_l, sl_t, sl_s, at0, at1, at2, at3, lct_no, lct_yes, lctP_nm, l2T_nm, l2t1_s, ix_nm, ix_tp, lct1_s, lct2_s, lct3_s, gd_pos, r4])
  obtain ⟨acc, pl', e, l, rfl, h1, h2, h3⟩ := lp
  rw [rngD_len] at h1 h3
  refine ⟨l, pl', ⟨h1, h2⟩, h3, ?_⟩
  unfold F__law_draw_list b__law_draw_list
  simp only [gd_T, e_con, e_glob, e_var, rd_val, rd_own, e_bin, bin1_s, bin2_s, e_neg, neg1_s, e_cmp, cmp1_s, cmp2_s, e_chn, chn1_s, chn2_s, chn3_s, e_isK, isK1_s, e_bools, b_last, b_more, bolC_s, bolD_s, e_not, not1_s, e_ite, ite1_s, ite2_s, es_nil, es_cons, es1_s, es2_s, e_tup, e_lst, tup1_s, lst1_s,
 e_sub, sub1_s, sub2_s, o_none, o_some, o1_s, e_sl, sl1_s, sl2_s, sl3_s, e_rev, rev1_s, e_call, call1_s, e_callP, callP1_s, e_bi, bi1_s, e_me, me1_s, me2_s, e_isi, isi1_s, w_rngE, rng1_s, w_exE, wlk1_s, prL_some, walk_lst, walk_tup, walk_str, e_lc, lc1_s, lc2_s, e_lcP, lcP1_s, e_lc2, lcD1_s, e_lrng, lrng1_s, lrng2_s, e_sset, sset1_s, sset2_s, wipeE_nil, wipeE_cons, t_ev, tst1_s, ss_nil, ss_cons, seq_nx, seq_rt, seq_bk, seq_ct, seq_ite,
 s_asgV, s_asgO, asgV_s, asgO_s, settle_t, settle_c, frz_nil, frz_val, frz_none, frz_pool, frz_own, n_non, n_bl, n_int, n_str, n_lst, n_tup, n_nil, n_cons, s_unp, unp1_s, s_parE, par1_s, setAll_nil, setAll_cons, s_aug, aug1_s, aug2_i, aug2_t, aug3_s, s_app, app1_s, app2_s, s_ret, ret1_s, ret1_ite, s_if, if1_s, s_for, s_forT, for1_s, turnF_s, turnT_s, s_brk, s_cnt, s_pass, frzW_rng, frzW_ex,
 d_ev, d_nx, d_rt, d_ite, and_pure, or_pure, tru_bl, tru_int, tru_non, tru_str, tru_lst, tru_tup, pr_some, pr_gd, prB_some, prT_some, iniE, lawE, List.getElem?_cons_zero, List.getElem?_cons_succ, List.getElem?_nil, List.set_cons_zero, List.set_cons_succ, List.set_nil, List.map_cons, List.map_nil, List.nil_append, List.cons_append, List.append_nil, List.length_cons, List.length_nil, Nat.zero_le, Nat.reduceLeDiff, Nat.reduceAdd, List.replicate, ite_true, ite_false, if_true, if_false, Bool.false_eq_true, reduceIte, reduceCtorEq, ite_self, Bool.true_and, Bool.and_true, Bool.not_true, Bool.not_false, Bool.not_not, Option.map_some, Option.map_none, Pu.sizeLine_eq, cmp_ge, cmp_gt, cmp_le, cmp_lt, eq_i, eq_s, eq_b, ne_i, ne_s, ne_b, in_c, nin_c, op_add_i, op_add_s, op_add_t, op_add_l, op_sub_i, op_mul_r, op_mul_l, op_div_i, op_mod_i, bi_int, bi_intb, len_s, len_l, len_t, bi_list_t, bi_list_l, bi_tuple_t, bi_tuple_l, bi_min2, bi_max2, rev_s, rev_l, rev_t, sub_l, sub_t, sub_s, sl_l, sl_t, sl_s, at0, at1, at2, at3, lct_no, lct_yes, lctP_nm, l2T_nm, l2t1_s, ix_nm, ix_tp, lct1_s, lct2_s, lct3_s, gd_pos, rngL_int (n := 40) (by decide) (by decide), show Int.toNat 40 = 40 from rfl, e, List.length_map, h1]
theorem Draws.get {l : List Int} (h : Draws l) {i : Nat} (hi : i < 40) : ∃ x, (l.map D.int)[i]? = some (.int x) ∧ 0 ≤ x ∧ x < 4096 := by
  have hl := h.len
  refine ⟨l[i], by rw [List.getElem?_map, List.getElem?_eq_getElem (by omega)]; rfl, ?_⟩
  exact h.all _ (List.getElem_mem _)
theorem Draws.at {l : List Int} (h : Draws l) {i : Int} (h0 : 0 ≤ i) (hi : i < 40) : ∃ x, atI (l.map D.int) i = some (.int x) ∧ 0 ≤ x ∧ x < 4096 := by
  rw [atI_nn h0]
  exact h.get (by omega)

-- small tests
def isI : D → Bool
  | .int _ => true
  | _ => false
def b__law_is_int : Sts := (.cons (.ret (.bools true (.cons (.isi (.var 0) .int) (.cons (.notE (.isi (.var 0) .bool)) .nil)))) .nil)
def F__law_is_int : Fnc := fun ds pl => evD fuel b__law_is_int 1 false ds pl
theorem is_int_ev {d : D} {pl : Pool} : F__law_is_int [d] pl = some (.bl (isI d), pl) := by
  unfold F__law_is_int b__law_is_int
  cases d <;> simp only [gd_T, e_con, e_glob, e_var, rd_val, rd_own, e_bin, bin1_s, bin2_s, e_neg, neg1_s, e_cmp, cmp1_s, cmp2_s, e_chn, chn1_s, chn2_s, chn3_s, e_isK, isK1_s, e_bools, b_last, b_more, bolC_s, bolD_s, e_not, not1_s, e_ite, ite1_s, ite2_s, es_nil, es_cons, es1_s, es2_s, e_tup, e_lst, tup1_s, lst1_s,
 e_sub, sub1_s, sub2_s, o_none, o_some, o1_s, e_sl, sl1_s, sl2_s, sl3_s, e_rev, rev1_s, e_call, call1_s, e_callP, callP1_s, e_bi, bi1_s, e_me, me1_s, me2_s, e_isi, isi1_s, w_rngE, rng1_s, w_exE, wlk1_s, prL_some, walk_lst, walk_tup, walk_str, e_lc, lc1_s, lc2_s, e_lcP, lcP1_s, e_lc2, lcD1_s, e_lrng, lrng1_s, lrng2_s, e_sset, sset1_s, sset2_s, wipeE_nil, wipeE_cons, t_ev, tst1_s, ss_nil, ss_cons, seq_nx, seq_rt, seq_bk, seq_ct, seq_ite,
 s_asgV, s_asgO, asgV_s, asgO_s, settle_t, settle_c, frz_nil, frz_val, frz_none, frz_pool, frz_own, n_non, n_bl, n_int, n_str, n_lst, n_tup, n_nil, n_cons, s_unp, unp1_s, s_parE, par1_s, setAll_nil, setAll_cons, s_aug, aug1_s, aug2_i, aug2_t, aug3_s, s_app, app1_s, app2_s, s_ret, ret1_s, ret1_ite, s_if, if1_s, s_for, s_forT, for1_s, turnF_s, turnT_s, s_brk, s_cnt, s_pass, frzW_rng, frzW_ex,
 d_ev, d_nx, d_rt, d_ite, and_pure, or_pure, tru_bl, tru_int, tru_non, tru_str, tru_lst, tru_tup, pr_some, pr_gd, prB_some, prT_some, iniE, lawE, List.getElem?_cons_zero, List.getElem?_cons_succ, List.getElem?_nil, List.set_cons_zero, List.set_cons_succ, List.set_nil, List.map_cons, List.map_nil, List.nil_append, List.cons_append, List.append_nil, List.length_cons, List.length_nil, Nat.zero_le, Nat.reduceLeDiff, Nat.reduceAdd, List.replicate, ite_true, ite_false, if_true, if_false, Bool.false_eq_true, reduceIte, reduceCtorEq, ite_self, Bool.true_and, Bool.and_true, Bool.not_true, Bool.not_false, Bool.not_not, Option.map_some, Option.map_none, Pu.sizeLine_eq, cmp_ge, cmp_gt, cmp_le, cmp_lt, eq_i, eq_s, eq_b, ne_i, ne_s, ne_b, in_c, nin_c, op_add_i, op_add_s, op_add_t, op_add_l, op_sub_i, op_mul_r, op_mul_l, op_div_i, op_mod_i, bi_int, bi_intb, len_s, len_l, len_t, bi_list_t, bi_list_l, bi_tuple_t, bi_tuple_l, bi_min2, bi_max2, rev_s, rev_l, rev_t, sub_l, sub_t, sub_s, sl_l, sl_t, sl_s, at0, at1, at2, at3, lct_no, lct_yes, lctP_nm, l2T_nm, l2t1_s, ix_nm, ix_tp, lct1_s, lct2_s, lct3_s, gd_pos, isTy, isI, decide_true, decide_false]
def b__law_is_bool : Sts := (.cons (.ite (.var 1) (.cons (.ret (.isK false (.var 0) (.bl true))) .nil) .nil) (.cons (.ret (.isK false (.var 0) (.bl false))) .nil))
def F__law_is_bool : Fnc := fun ds pl => evD fuel b__law_is_bool 2 false ds pl
theorem is_bool_ev {a b : Bool} {pl : Pool} : F__law_is_bool [.bl a, .bl b] pl = some (.bl (a == b), pl) := by
  unfold F__law_is_bool b__law_is_bool
  cases a <;> cases b <;> simp only [gd_T, e_con, e_glob, e_var, rd_val, rd_own, e_bin, bin1_s, bin2_s, e_neg, neg1_s, e_cmp, cmp1_s, cmp2_s, e_chn, chn1_s, chn2_s, chn3_s, e_isK, isK1_s, e_bools, b_last, b_more, bolC_s, bolD_s, e_not, not1_s, e_ite, ite1_s, ite2_s, es_nil, es_cons, es1_s, es2_s, e_tup, e_lst, tup1_s, lst1_s,
 e_sub, sub1_s, sub2_s, o_none, o_some, o1_s, e_sl, sl1_s, sl2_s, sl3_s, e_rev, rev1_s, e_call, call1_s, e_callP, callP1_s, e_bi, bi1_s, e_me, me1_s, me2_s, e_isi, isi1_s, w_rngE, rng1_s, w_exE, wlk1_s, prL_some, walk_lst, walk_tup, walk_str, e_lc, lc1_s, lc2_s, e_lcP, lcP1_s, e_lc2, lcD1_s, e_lrng, lrng1_s, lrng2_s, e_sset, sset1_s, sset2_s, wipeE_nil, wipeE_cons, t_ev, tst1_s, ss_nil, ss_cons, seq_nx, seq_rt, seq_bk, seq_ct, seq_ite,
 s_asgV, s_asgO, asgV_s, asgO_s, settle_t, settle_c, frz_nil, frz_val, frz_none, frz_pool, frz_own, n_non, n_bl, n_int, n_str, n_lst, n_tup, n_nil, n_cons, s_unp, unp1_s, s_parE, par1_s, setAll_nil, setAll_cons, s_aug, aug1_s, aug2_i, aug2_t, aug3_s, s_app, app1_s, app2_s, s_ret, ret1_s, ret1_ite, s_if, if1_s, s_for, s_forT, for1_s, turnF_s, turnT_s, s_brk, s_cnt, s_pass, frzW_rng, frzW_ex,
 d_ev, d_nx, d_rt, d_ite, and_pure, or_pure, tru_bl, tru_int, tru_non, tru_str, tru_lst, tru_tup, pr_some, pr_gd, prB_some, prT_some, iniE, lawE, List.getElem?_cons_zero, List.getElem?_cons_succ, List.getElem?_nil, List.set_cons_zero, List.set_cons_succ, List.set_nil, List.map_cons, List.map_nil, List.nil_append, List.cons_append, List.append_nil, List.length_cons, List.length_nil, Nat.zero_le, Nat.reduceLeDiff, Nat.reduceAdd, List.replicate, ite_true, ite_false, if_true, if_false, Bool.false_eq_true, reduceIte, reduceCtorEq, ite_self, Bool.true_and, Bool.and_true, Bool.not_true, Bool.not_false, Bool.not_not, Option.map_some, Option.map_none, Pu.sizeLine_eq, cmp_ge, cmp_gt, cmp_le, cmp_lt, eq_i, eq_s, eq_b, ne_i, ne_s, ne_b, in_c, nin_c, op_add_i, op_add_s, op_add_t, op_add_l, op_sub_i, op_mul_r, op_mul_l, op_div_i, op_mod_i, bi_int, bi_intb, len_s, len_l, len_t, bi_list_t, bi_list_l, bi_tuple_t, bi_tuple_l, bi_min2, bi_max2, rev_s, rev_l, rev_t, sub_l, sub_t, sub_s, sl_l, sl_t, sl_s, at0, at1, at2, at3, lct_no, lct_yes, lctP_nm, l2T_nm, l2t1_s, ix_nm, ix_tp, lct1_s, lct2_s, lct3_s, gd_pos, isKD] <;> rfl
def named (v : D) (w : List Nat) (n : Nat) : Bool := match v with
  | .tup (.str z :: r) => decide (r.length + 1 = n) && z == w
  | _ => false
def b__law_named : Sts := (.cons (.ret (.bools true (.cons (.isi (.var 0) .tuple) (.cons (.cmp .Eq (.bi .len (.cons (.var 0) .nil)) (.var 2)) (.cons (.isi (.sub (.var 0) (.con (.int 0))) .str) (.cons (.cmp .Eq (.sub (.var 0) (.con (.int 0))) (.var 1)) .nil)))))) .nil)
def F__law_named : Fnc := fun ds pl => evD fuel b__law_named 3 false ds pl
theorem named_ev {v : D} {w : List Nat} {n : Nat} (hn : 0 < n) {pl : Pool} : F__law_named [v, .str w, .int (n : Nat)] pl = some (.bl (named v w n), pl) := by
  unfold F__law_named b__law_named
  have e : ∀ k : Nat, ((k : Int) == (n : Int)) = decide (k = n) := fun k => by
    rw [Bool.eq_iff_iff]
    simp
    omega
  cases v with
  | tup l =>
    cases l with
    | nil => simp only [gd_T, e_con, e_glob, e_var, rd_val, rd_own, e_bin, bin1_s, bin2_s, e_neg, neg1_s, e_cmp, cmp1_s, cmp2_s, e_chn, chn1_s, chn2_s, chn3_s, e_isK, isK1_s, e_bools, b_last, b_more, bolC_s, bolD_s, e_not, not1_s, e_ite, ite1_s, ite2_s, es_nil, es_cons, es1_s, es2_s, e_tup, e_lst, tup1_s, lst1_s,
 e_sub, sub1_s, sub2_s, o_none, o_some, o1_s, e_sl, sl1_s, sl2_s, sl3_s, e_rev, rev1_s, e_call, call1_s, e_callP, callP1_s, e_bi, bi1_s, e_me, me1_s, me2_s, e_isi, isi1_s, w_rngE, rng1_s, w_exE, wlk1_s, prL_some, walk_lst, walk_tup, walk_str, e_lc, lc1_s, lc2_s, e_lcP, lcP1_s, e_lc2, lcD1_s, e_lrng, lrng1_s, lrng2_s, e_sset, sset1_s, sset2_s, wipeE_nil, wipeE_cons, t_ev, tst1_s, ss_nil, ss_cons, seq_nx, seq_rt, seq_bk, seq_ct, seq_ite,
 s_asgV, s_asgO, asgV_s, asgO_s, settle_t, settle_c, frz_nil, frz_val, frz_none, frz_pool, frz_own, n_non, n_bl, n_int, n_str, n_lst, n_tup, n_nil, n_cons, s_unp, unp1_s, s_parE, par1_s, setAll_nil, setAll_cons, s_aug, aug1_s, aug2_i, aug2_t, aug3_s, s_app, app1_s, app2_s, s_ret, ret1_s, ret1_ite, s_if, if1_s, s_for, s_forT, for1_s, turnF_s, turnT_s, s_brk, s_cnt, s_pass, frzW_rng, frzW_ex,
 d_ev, d_nx, d_rt, d_ite, and_pure, or_pure, tru_bl, tru_int, tru_non, tru_str, tru_lst, tru_tup, pr_some, pr_gd, prB_some, prT_some, iniE, lawE, List.getElem?_cons_zero, List.getElem?_cons_succ, List.getElem?_nil, List.set_cons_zero, List.set_cons_succ, List.set_nil, List.map_cons, List.map_nil, List.nil_append, List.cons_append, List.append_nil, List.length_cons, List.length_nil, Nat.zero_le, Nat.reduceLeDiff, Nat.reduceAdd, List.replicate, ite_true, ite_false, if_true, if_false, Bool.false_eq_true, reduceIte, reduceCtorEq, ite_self, Bool.true_and, Bool.and_true, Bool.not_true, Bool.not_false, Bool.not_not, Option.map_some, Option.map_none, Pu.sizeLine_eq, cmp_ge, cmp_gt, cmp_le, cmp_lt, eq_i, eq_s, eq_b, ne_i, ne_s, ne_b, in_c, nin_c, op_add_i, op_add_s, op_add_t, op_add_l, op_sub_i, op_mul_r, op_mul_l, op_div_i, op_mod_i, bi_int, bi_intb, len_s, len_l, len_t, bi_list_t, bi_list_l, bi_tuple_t, bi_tuple_l, bi_min2, bi_max2, rev_s, rev_l, rev_t, sub_l, sub_t, sub_s, sl_l, sl_t, sl_s, at0, at1, at2, at3, lct_no, lct_yes, lctP_nm, l2T_nm, l2t1_s, ix_nm, ix_tp, lct1_s, lct2_s, lct3_s, gd_pos, isTy, e, show ¬ (0 = n) by omega, decide_false, named]
    | cons x r =>
      by_cases h : r.length + 1 = n
      · cases x <;> simp only [gd_T, e_con, e_glob, e_var, rd_val, rd_own, e_bin, bin1_s, bin2_s, e_neg, neg1_s, e_cmp, cmp1_s, cmp2_s, e_chn, chn1_s, chn2_s, chn3_s, e_isK, isK1_s, e_bools, b_last, b_more, bolC_s, bolD_s, e_not, not1_s, e_ite, ite1_s, ite2_s, es_nil, es_cons, es1_s, es2_s, e_tup, e_lst, tup1_s, lst1_s,
 e_sub, sub1_s, sub2_s, o_none, o_some, o1_s, e_sl, sl1_s, sl2_s, sl3_s, e_rev, rev1_s, e_call, call1_s, e_callP, callP1_s, e_bi, bi1_s, e_me, me1_s, me2_s, e_isi, isi1_s, w_rngE, rng1_s, w_exE, wlk1_s, prL_some, walk_lst, walk_tup, walk_str, e_lc, lc1_s, lc2_s, e_lcP, lcP1_s, e_lc2, lcD1_s, e_lrng, lrng1_s, lrng2_s, e_sset, sset1_s, sset2_s, wipeE_nil, wipeE_cons, t_ev, tst1_s, ss_nil, ss_cons, seq_nx, seq_rt, seq_bk, seq_ct, seq_ite,
 s_asgV, s_asgO, asgV_s, asgO_s, settle_t, settle_c, frz_nil, frz_val, frz_none, frz_pool, frz_own, n_non, n_bl, n_int, n_str, n_lst, n_tup, n_nil, n_cons, s_unp, unp1_s, s_parE, par1_s, setAll_nil, setAll_cons, s_aug, aug1_s, aug2_i, aug2_t, aug3_s, s_app, app1_s, app2_s, s_ret, ret1_s, ret1_ite, s_if, if1_s, s_for, s_forT, for1_s, turnF_s, turnT_s, s_brk, s_cnt, s_pass, frzW_rng, frzW_ex,
 d_ev, d_nx, d_rt, d_ite, and_pure, or_pure, tru_bl, tru_int, tru_non, tru_str, tru_lst, tru_tup, pr_some, pr_gd, prB_some, prT_some, iniE, lawE, List.getElem?_cons_zero, List.getElem?_cons_succ, List.getElem?_nil, List.set_cons_zero, List.set_cons_succ, List.set_nil, List.map_cons, List.map_nil, List.nil_append, List.cons_append, List.append_nil, List.length_cons, List.length_nil, Nat.zero_le, Nat.reduceLeDiff, Nat.reduceAdd, List.replicate, ite_true, ite_false, if_true, if_false, Bool.false_eq_true, reduceIte, reduceCtorEq, ite_self, Bool.true_and, Bool.and_true, Bool.not_true, Bool.not_false, Bool.not_not, Option.map_some, Option.map_none, Pu.sizeLine_eq, cmp_ge, cmp_gt, cmp_le, cmp_lt, eq_i, eq_s, eq_b, ne_i, ne_s, ne_b, in_c, nin_c, op_add_i, op_add_s, op_add_t, op_add_l, op_sub_i, op_mul_r, op_mul_l, op_div_i, op_mod_i, bi_int, bi_intb, len_s, len_l, len_t, bi_list_t, bi_list_l, bi_tuple_t, bi_tuple_l, bi_min2, bi_max2, rev_s, rev_l, rev_t, sub_l, sub_t, sub_s, sl_l, sl_t, sl_s, at0, at1, at2, at3, lct_no, lct_yes, lctP_nm, l2T_nm, l2t1_s, ix_nm, ix_tp, lct1_s, lct2_s, lct3_s, gd_pos, isTy, e, h, decide_true, named] <;> rfl
      · cases x <;> simp only [gd_T, e_con, e_glob, e_var, rd_val, rd_own, e_bin, bin1_s, bin2_s, e_neg, neg1_s, e_cmp, cmp1_s, cmp2_s, e_chn, chn1_s, chn2_s, chn3_s, e_isK, isK1_s, e_bools, b_last, b_more, bolC_s, bolD_s, e_not, not1_s, e_ite, ite1_s, ite2_s, es_nil, es_cons, es1_s, es2_s, e_tup, e_lst, tup1_s, lst1_s,
 e_sub, sub1_s, sub2_s, o_none, o_some, o1_s, e_sl, sl1_s, sl2_s, sl3_s, e_rev, rev1_s, e_call, call1_s, e_callP, callP1_s, e_bi, bi1_s, e_me, me1_s, me2_s, e_isi, isi1_s, w_rngE, rng1_s, w_exE, wlk1_s, prL_some, walk_lst, walk_tup, walk_str, e_lc, lc1_s, lc2_s, e_lcP, lcP1_s, e_lc2, lcD1_s, e_lrng, lrng1_s, lrng2_s, e_sset, sset1_s, sset2_s, wipeE_nil, wipeE_cons, t_ev, tst1_s, ss_nil, ss_cons, seq_nx, seq_rt, seq_bk, seq_ct, seq_ite,
 s_asgV, s_asgO, asgV_s, asgO_s, settle_t, settle_c, frz_nil, frz_val, frz_none, frz_pool, frz_own, n_non, n_bl, n_int, n_str, n_lst, n_tup, n_nil, n_cons, s_unp, unp1_s, s_parE, par1_s, setAll_nil, setAll_cons, s_aug, aug1_s, aug2_i, aug2_t, aug3_s, s_app, app1_s, app2_s, s_ret, ret1_s, ret1_ite, s_if, if1_s, s_for, s_forT, for1_s, turnF_s, turnT_s, s_brk, s_cnt, s_pass, frzW_rng, frzW_ex,
 d_ev, d_nx, d_rt, d_ite, and_pure, or_pure, tru_bl, tru_int, tru_non, tru_str, tru_lst, tru_tup, pr_some, pr_gd, prB_some, prT_some, iniE, lawE, List.getElem?_cons_zero, List.getElem?_cons_succ, List.getElem?_nil, List.set_cons_zero, List.set_cons_succ, List.set_nil, List.map_cons, List.map_nil, List.nil_append, List.cons_append, List.append_nil, List.length_cons, List.length_nil, Nat.zero_le, Nat.reduceLeDiff, Nat.reduceAdd, List.replicate, ite_true, ite_false, if_true, if_false, Bool.false_eq_true, reduceIte, reduceCtorEq, ite_self, Bool.true_and, Bool.and_true, Bool.not_true, Bool.not_false, Bool.not_not, Option.map_some, Option.map_none, Pu.sizeLine_eq, cmp_ge, cmp_gt, cmp_le, cmp_lt, eq_i, eq_s, eq_b, ne_i, ne_s, ne_b, in_c, nin_c, op_add_i, op_add_s, op_add_t, op_add_l, op_sub_i, op_mul_r, op_mul_l, op_div_i, op_mod_i, bi_int, bi_intb, len_s, len_l, len_t, bi_list_t, bi_list_l, bi_tuple_t, bi_tuple_l, bi_min2, bi_max2, rev_s, rev_l, rev_t, sub_l, sub_t, sub_s, sl_l, sl_t, sl_s, at0, at1, at2, at3, lct_no, lct_yes, lctP_nm, l2T_nm, l2t1_s, ix_nm, ix_tp, lct1_s, lct2_s, lct3_s, gd_pos, isTy, e, h, decide_false, named, Bool.false_and]
  | _ => simp only [gd_T, e_con, e_glob, e_var, rd_val, rd_own, e_bin, bin1_s, bin2_s, e_neg, neg1_s, e_cmp, cmp1_s, cmp2_s, e_chn, chn1_s, chn2_s, chn3_s, e_isK, isK1_s, e_bools, b_last, b_more, bolC_s, bolD_s, e_not, not1_s, e_ite, ite1_s, ite2_s, es_nil, es_cons, es1_s, es2_s, e_tup, e_lst, tup1_s, lst1_s,
 e_sub, sub1_s, sub2_s, o_none, o_some, o1_s, e_sl, sl1_s, sl2_s, sl3_s, e_rev, rev1_s, e_call, call1_s, e_callP, callP1_s, e_bi, bi1_s, e_me, me1_s, me2_s, e_isi, isi1_s, w_rngE, rng1_s, w_exE, wlk1_s, prL_some, walk_lst, walk_tup, walk_str, e_lc, lc1_s, lc2_s, e_lcP, lcP1_s, e_lc2, lcD1_s, e_lrng, lrng1_s, lrng2_s, e_sset, sset1_s, sset2_s, wipeE_nil, wipeE_cons, t_ev, tst1_s, ss_nil, ss_cons, seq_nx, seq_rt, seq_bk, seq_ct, seq_ite,
 s_asgV, s_asgO, asgV_s, asgO_s, settle_t, settle_c, frz_nil, frz_val, frz_none, frz_pool, frz_own, n_non, n_bl, n_int, n_str, n_lst, n_tup, n_nil, n_cons, s_unp, unp1_s, s_parE, par1_s, setAll_nil, setAll_cons, s_aug, aug1_s, aug2_i, aug2_t, aug3_s, s_app, app1_s, app2_s, s_ret, ret1_s, ret1_ite, s_if, if1_s, s_for, s_forT, for1_s, turnF_s, turnT_s, s_brk, s_cnt, s_pass, frzW_rng, frzW_ex,
 d_ev, d_nx, d_rt, d_ite, and_pure, or_pure, tru_bl, tru_int, tru_non, tru_str, tru_lst, tru_tup, pr_some, pr_gd, prB_some, prT_some, iniE, lawE, List.getElem?_cons_zero, List.getElem?_cons_succ, List.getElem?_nil, List.set_cons_zero, List.set_cons_succ, List.set_nil, List.map_cons, List.map_nil, List.nil_append, List.cons_append, List.append_nil, List.length_cons, List.length_nil, Nat.zero_le, Nat.reduceLeDiff, Nat.reduceAdd, List.replicate, ite_true, ite_false, if_true, if_false, Bool.false_eq_true, reduceIte, reduceCtorEq, ite_self, Bool.true_and, Bool.and_true, Bool.not_true, Bool.not_false, Bool.not_not, Option.map_some, Option.map_none, Pu.sizeLine_eq, cmp_ge, cmp_gt, cmp_le, cmp_lt, eq_i, eq_s, eq_b, ne_i, ne_s, ne_b, in_c, nin_c, op_add_i, op_add_s, op_add_t, op_add_l, op_sub_i, op_mul_r, op_mul_l, op_div_i, op_mod_i, bi_int, bi_intb, len_s, len_l, len_t, bi_list_t, bi_list_l, bi_tuple_t, bi_tuple_l, bi_min2, bi_max2, rev_s, rev_l, rev_t, sub_l, sub_t, sub_s, sl_l, sl_t, sl_s, at0, at1, at2, at3, lct_no, lct_yes, lctP_nm, l2T_nm, l2t1_s, ix_nm, ix_tp, lct1_s, lct2_s, lct3_s, gd_pos, isTy, named]
def abcd : List Nat := [97, 98, 99, 100]
def wordB (v : D) : Bool := match v with
  | .str z => decide (z.length ≤ 60) && z.all fun c => decide (c ∈ abcd)
  | _ => false
def b__law_word : Sts := (.cons (.ret (.bools true (.cons (.isi (.var 0) .str) (.cons (.cmp .LtE (.bi .len (.cons (.var 0) .nil)) (.con (.int 60))) (.cons (.cmp .Eq (.bi .len (.cons (.lc 1 (.ex (.var 0)) (.yes (.cmp .NotIn (.var 1) (.con (.str [97, 98, 99, 100])))) (.var 1)) .nil)) (.con (.int 0))) .nil))))) .nil)
def F__law_word : Fnc := fun ds pl => evD fuel b__law_word 2 false ds pl
theorem word_ev {v : D} (hv : ∀ z, v = .str z → z.length ≤ 16777216) {pl : Pool} : F__law_word [v] pl = some (.bl (wordB v), pl) := by
  unfold F__law_word b__law_word
  cases v with
  | str z =>
    have hz := hv z rfl
    have e := lc_filter (turn := lcTurn 1 (.yes (.cmp .NotIn (.var 1) (.con (.str [97, 98, 99, 100])))) (.var 1) [.val (.str z), .none]) (pl := pl) (ds := z.map fun c => .str [c])
      (p := fun x => match x with | .str [c] => !decide (c ∈ abcd) | _ => false) (fun x hx => by
        obtain ⟨c, hc, rfl⟩ := List.mem_map.mp hx
        simp only [gd_T, e_con, e_glob, e_var, rd_val, rd_own, e_bin, bin1_s, bin2_s, e_neg, neg1_s, e_cmp, cmp1_s, cmp2_s, e_chn, chn1_s, chn2_s, chn3_s, e_isK, isK1_s, e_bools, b_last, b_more, bolC_s, bolD_s, e_not, not1_s, e_ite, ite1_s, ite2_s, es_nil, es_cons, es1_s, es2_s, e_tup, e_lst, tup1_s, lst1_s,
 e_sub, sub1_s, sub2_s, o_none, o_some, o1_s, e_sl, sl1_s, sl2_s, sl3_s, e_rev, rev1_s, e_call, call1_s, e_callP, callP1_s, e_bi, bi1_s, e_me, me1_s, me2_s, e_isi, isi1_s, w_rngE, rng1_s, w_exE, wlk1_s, prL_some, walk_lst, walk_tup, walk_str, e_lc, lc1_s, lc2_s, e_lcP, lcP1_s, e_lc2, lcD1_s, e_lrng, lrng1_s, lrng2_s, e_sset, sset1_s, sset2_s, wipeE_nil, wipeE_cons, t_ev, tst1_s, ss_nil, ss_cons, seq_nx, seq_rt, seq_bk, seq_ct, seq_ite,
 s_asgV, s_asgO, asgV_s, asgO_s, settle_t, settle_c, frz_nil, frz_val, frz_none, frz_pool, frz_own, n_non, n_bl, n_int, n_str, n_lst, n_tup, n_nil, n_cons, s_unp, unp1_s, s_parE, par1_s, setAll_nil, setAll_cons, s_aug, aug1_s, aug2_i, aug2_t, aug3_s, s_app, app1_s, app2_s, s_ret, ret1_s, ret1_ite, s_if, if1_s, s_for, s_forT, for1_s, turnF_s, turnT_s, s_brk, s_cnt, s_pass, frzW_rng, frzW_ex,
 d_ev, d_nx, d_rt, d_ite, and_pure, or_pure, tru_bl, tru_int, tru_non, tru_str, tru_lst, tru_tup, pr_some, pr_gd, prB_some, prT_some, iniE, lawE, List.getElem?_cons_zero, List.getElem?_cons_succ, List.getElem?_nil, List.set_cons_zero, List.set_cons_succ, List.set_nil, List.map_cons, List.map_nil, List.nil_append, List.cons_append, List.append_nil, List.length_cons, List.length_nil, Nat.zero_le, Nat.reduceLeDiff, Nat.reduceAdd, List.replicate, ite_true, ite_false, if_true, if_false, Bool.false_eq_true, reduceIte, reduceCtorEq, ite_self, Bool.true_and, Bool.and_true, Bool.not_true, Bool.not_false, Bool.not_not, Option.map_some, Option.map_none, Pu.sizeLine_eq, cmp_ge, cmp_gt, cmp_le, cmp_lt, eq_i, eq_s, eq_b, ne_i, ne_s, ne_b, in_c, nin_c, op_add_i, op_add_s, op_add_t, op_add_l, op_sub_i, op_mul_r, op_mul_l, op_div_i, op_mod_i, bi_int, bi_intb, len_s, len_l, len_t, bi_list_t, bi_list_l, bi_tuple_t, bi_tuple_l, bi_min2, bi_max2, rev_s, rev_l, rev_t, sub_l, sub_t, sub_s, sl_l, sl_t, sl_s, at0, at1, at2, at3, lct_no, lct_yes, lctP_nm, l2T_nm, l2t1_s, ix_nm, ix_tp, lct1_s, lct2_s, lct3_s, gd_pos]
        rfl)
    have hl : ((z.map fun c => D.str [c]).filter fun x => match x with | .str [c] => !decide (c ∈ abcd) | _ => false) = (z.filter fun c => !decide (c ∈ abcd)).map fun c => .str [c] := by
      rw [List.filter_map]; rfl
    rw [hl] at e
    have hle : (z.filter fun c => !decide (c ∈ abcd)).length ≤ z.length := List.length_filter_le _ _
    have hq : (((z.filter fun c => !decide (c ∈ abcd)).length : Int) == 0) = z.all fun c => decide (c ∈ abcd) := by
      rw [Bool.eq_iff_iff, beq_iff_eq]
      constructor
      · intro h
        have : (z.filter fun c => !decide (c ∈ abcd)) = [] := List.eq_nil_of_length_eq_zero (by omega)
        rw [List.filter_eq_nil_iff] at this
        rw [List.all_eq_true]
        intro c hc
        have := this c hc
        simpa using this
      · intro h
        rw [List.all_eq_true] at h
        have : (z.filter fun c => !decide (c ∈ abcd)) = [] := List.filter_eq_nil_iff.mpr fun c hc => by
          have := h c hc
          simpa using this
        rw [this]
        rfl
    simp (disch := omega) only [gd_T, e_con, e_glob, e_var, rd_val, rd_own, e_bin, bin1_s, bin2_s, e_neg, neg1_s, e_cmp, cmp1_s, cmp2_s, e_chn, chn1_s, chn2_s, chn3_s, e_isK, isK1_s, e_bools, b_last, b_more, bolC_s, bolD_s, e_not, not1_s, e_ite, ite1_s, ite2_s, es_nil, es_cons, es1_s, es2_s, e_tup, e_lst, tup1_s, lst1_s,
 e_sub, sub1_s, sub2_s, o_none, o_some, o1_s, e_sl, sl1_s, sl2_s, sl3_s, e_rev, rev1_s, e_call, call1_s, e_callP, callP1_s, e_bi, bi1_s, e_me, me1_s, me2_s, e_isi, isi1_s, w_rngE, rng1_s, w_exE, wlk1_s, prL_some, walk_lst, walk_tup, walk_str, e_lc, lc1_s, lc2_s, e_lcP, lcP1_s, e_lc2, lcD1_s, e_lrng, lrng1_s, lrng2_s, e_sset, sset1_s, sset2_s, wipeE_nil, wipeE_cons, t_ev, tst1_s, ss_nil, ss_cons, seq_nx, seq_rt, seq_bk, seq_ct, seq_ite,
 s_asgV, s_asgO, asgV_s, asgO_s, settle_t, settle_c, frz_nil, frz_val, frz_none, frz_pool, frz_own, n_non, n_bl, n_int, n_str, n_lst, n_tup, n_nil, n_cons, s_unp, unp1_s, s_parE, par1_s, setAll_nil, setAll_cons, s_aug, aug1_s, aug2_i, aug2_t, aug3_s, s_app, app1_s, app2_s, s_ret, ret1_s, ret1_ite, s_if, if1_s, s_for, s_forT, for1_s, turnF_s, turnT_s, s_brk, s_cnt, s_pass, frzW_rng, frzW_ex,
 d_ev, d_nx, d_rt, d_ite, and_pure, or_pure, tru_bl, tru_int, tru_non, tru_str, tru_lst, tru_tup, pr_some, pr_gd, prB_some, prT_some, iniE, lawE, List.getElem?_cons_zero, List.getElem?_cons_succ, List.getElem?_nil, List.set_cons_zero, List.set_cons_succ, List.set_nil, List.map_cons, List.map_nil, List.nil_append, List.cons_append, List.append_nil, List.length_cons, List.length_nil, Nat.zero_le, Nat.reduceLeDiff, Nat.reduceAdd, List.replicate, ite_true, ite_false, if_true, if_false, Bool.false_eq_true, reduceIte, reduceCtorEq, ite_self, Bool.true_and, Bool.and_true, Bool.not_true, Bool.not_false, Bool.not_not, Option.map_some, Option.map_none, Pu.sizeLine_eq, cmp_ge, cmp_gt, cmp_le, cmp_lt, eq_i, eq_s, eq_b, ne_i, ne_s, ne_b, in_c, nin_c, op_add_i, op_add_s, op_add_t, op_add_l, op_sub_i, op_mul_r, op_mul_l, op_div_i, op_mod_i, bi_int, bi_intb, len_s, len_l, len_t, bi_list_t, bi_list_l, bi_tuple_t, bi_tuple_l, bi_min2, bi_max2, rev_s, rev_l, rev_t, sub_l, sub_t, sub_s, sl_l, sl_t, sl_s, at0, at1, at2, at3, lct_no, lct_yes, lctP_nm, l2T_nm, l2t1_s, ix_nm, ix_tp, lct1_s, lct2_s, lct3_s, gd_pos, isTy, e, List.length_map, hq, wordB]
    congr 3
    by_cases h : z.length ≤ 60
    · rw [decide_eq_false (by omega), decide_eq_true h]; rfl
    · rw [decide_eq_true (by omega), decide_eq_false h]; rfl
  | _ => simp only [gd_T, e_con, e_glob, e_var, rd_val, rd_own, e_bin, bin1_s, bin2_s, e_neg, neg1_s, e_cmp, cmp1_s, cmp2_s, e_chn, chn1_s, chn2_s, chn3_s, e_isK, isK1_s, e_bools, b_last, b_more, bolC_s, bolD_s, e_not, not1_s, e_ite, ite1_s, ite2_s, es_nil, es_cons, es1_s, es2_s, e_tup, e_lst, tup1_s, lst1_s,
 e_sub, sub1_s, sub2_s, o_none, o_some, o1_s, e_sl, sl1_s, sl2_s, sl3_s, e_rev, rev1_s, e_call, call1_s, e_callP, callP1_s, e_bi, bi1_s, e_me, me1_s, me2_s, e_isi, isi1_s, w_rngE, rng1_s, w_exE, wlk1_s, prL_some, walk_lst, walk_tup, walk_str, e_lc, lc1_s, lc2_s, e_lcP, lcP1_s, e_lc2, lcD1_s, e_lrng, lrng1_s, lrng2_s, e_sset, sset1_s, sset2_s, wipeE_nil, wipeE_cons, t_ev, tst1_s, ss_nil, ss_cons, seq_nx, seq_rt, seq_bk, seq_ct, seq_ite,
 s_asgV, s_asgO, asgV_s, asgO_s, settle_t, settle_c, frz_nil, frz_val, frz_none, frz_pool, frz_own, n_non, n_bl, n_int, n_str, n_lst, n_tup, n_nil, n_cons, s_unp, unp1_s, s_parE, par1_s, setAll_nil, setAll_cons, s_aug, aug1_s, aug2_i, aug2_t, aug3_s, s_app, app1_s, app2_s, s_ret, ret1_s, ret1_ite, s_if, if1_s, s_for, s_forT, for1_s, turnF_s, turnT_s, s_brk, s_cnt, s_pass, frzW_rng, frzW_ex,
 d_ev, d_nx, d_rt, d_ite, and_pure, or_pure, tru_bl, tru_int, tru_non, tru_str, tru_lst, tru_tup, pr_some, pr_gd, prB_some, prT_some, iniE, lawE, List.getElem?_cons_zero, List.getElem?_cons_succ, List.getElem?_nil, List.set_cons_zero, List.set_cons_succ, List.set_nil, List.map_cons, List.map_nil, List.nil_append, List.cons_append, List.append_nil, List.length_cons, List.length_nil, Nat.zero_le, Nat.reduceLeDiff, Nat.reduceAdd, List.replicate, ite_true, ite_false, if_true, if_false, Bool.false_eq_true, reduceIte, reduceCtorEq, ite_self, Bool.true_and, Bool.and_true, Bool.not_true, Bool.not_false, Bool.not_not, Option.map_some, Option.map_none, Pu.sizeLine_eq, cmp_ge, cmp_gt, cmp_le, cmp_lt, eq_i, eq_s, eq_b, ne_i, ne_s, ne_b, in_c, nin_c, op_add_i, op_add_s, op_add_t, op_add_l, op_sub_i, op_mul_r, op_mul_l, op_div_i, op_mod_i, bi_int, bi_intb, len_s, len_l, len_t, bi_list_t, bi_list_l, bi_tuple_t, bi_tuple_l, bi_min2, bi_max2, rev_s, rev_l, rev_t, sub_l, sub_t, sub_s, sl_l, sl_t, sl_s, at0, at1, at2, at3, lct_no, lct_yes, lctP_nm, l2T_nm, l2t1_s, ix_nm, ix_tp, lct1_s, lct2_s, lct3_s, gd_pos, isTy, wordB]
end Pu
set_option Elab.async false
set_option linter.all false
set_option maxRecDepth 100000
set_option maxHeartbeats 1000000
namespace Pu
open PySem PySem.Spec PyProof.Rows L2

def b__law_drawn : Sts := (.cons (.asg false 4 (.bin .Add (.var 1) (.callP "_law_pick" 1 F__law_pick 0 (.cons (.bin .Add (.bin .Sub (.var 2) (.var 1)) (.con (.int 1))) .nil)))) (.cons (.asg false 5 (.me .join (.con (.str [])) (.cons (.lc 6 (.rng (.cons (.var 4) .nil)) .no (.sub (.con (.str [97, 98, 99, 100])) (.callP "_law_pick" 1 F__law_pick 0 (.cons (.var 3) .nil)))) .nil))) (.cons (.asg false 7 (.callP "_law_pick" 1 F__law_pick 0 (.cons (.con (.int 4)) .nil))) (.cons (.ite (.bools true (.cons (.cmp .Eq (.var 7) (.con (.int 0))) (.cons (.cmp .Gt (.var 4) (.con (.int 1))) .nil))) (.cons (.asg false 6 (.bin .Add (.con (.int 1)) (.callP "_law_pick" 1 F__law_pick 0 (.cons (.bin .Sub (.var 4) (.con (.int 1))) .nil)))) (.cons (.asg false 5 (.sl (.bin .Mult (.sl (.var 5) .no (.yes (.var 6))) (.var 4)) .no (.yes (.var 4)))) .nil)) .nil) (.cons (.ite (.bools true (.cons (.cmp .Eq (.var 7) (.con (.int 1))) (.cons (.cmp .Gt (.var 4) (.con (.int 1))) .nil))) (.cons (.asg false 6 (.bin .FloorDiv (.var 4) (.con (.int 2)))) (.cons (.asg false 5 (.bin .Add (.sl (.var 5) .no (.yes (.bin .Sub (.var 4) (.var 6)))) (.rev (.sl (.var 5) .no (.yes (.var 6)))))) .nil)) .nil) (.cons (.ret (.var 5)) .nil))))))
def F__law_drawn : Fnc := fun ds pl => evD fuel b__law_drawn 8 true ds pl
theorem letter_at {r : Int} (h0 : 0 ≤ r) (h1 : r < 4) : opSub (.str [97, 98, 99, 100]) (.int r) = some (.str [97 + r.toNat]) := by
  have h : r = 0 ∨ r = 1 ∨ r = 2 ∨ r = 3 := by omega
  rcases h with rfl | rfl | rfl | rfl <;> rfl
theorem drawn_ok {m : Nat} {pl : Pool} (g : GP m pl) (hm : m < 10000000000) {lo mo sz : Int} (h0 : 0 ≤ lo) (h1 : lo ≤ mo) (h2 : mo ≤ 60) (h3 : 0 < sz) (h4 : sz ≤ 4) :
    ∃ (w : List Nat) (pl' : Pool), lo ≤ w.length ∧ w.length ≤ mo ∧ (∀ c ∈ w, 97 ≤ c ∧ (c : Int) < 97 + sz) ∧ GP (m + 100) pl' ∧ F__law_drawn [.int lo, .int mo, .int sz] pl = some (.str w, pl') := by
  obtain ⟨r, p1, r1, r2, g1, e1⟩ := pick_ok (a := mo - lo + 1) g (by omega) (by omega)
  obtain ⟨n, hn⟩ := Int.eq_ofNat_of_zero_le (show 0 ≤ lo + r by omega)
  have hn60 : n ≤ 60 := by omega
  have lp := lc_inv (turn := lcTurn 6 .no (.sub (.con (.str [97, 98, 99, 100])) (.callP "_law_pick" 1 F__law_pick 0 (.cons (.var 3) .nil))) [.pool, .val (.int lo), .val (.int mo), .val (.int sz), .val (.int (n : Int)), .none, .none, .none]) (ds := rngD n) (pl := p1)
    (Q := fun i acc pl => ∃ l : List Nat, acc = (l.map fun c => .str [c]) ∧ l.length = i ∧ (∀ c ∈ l, 97 ≤ c ∧ (c : Int) < 97 + sz) ∧ GP (m + 1 + i) pl) ⟨[], rfl, rfl, (fun x hx => by cases hx), g1⟩ (fun i hi acc pl hq => by
      obtain ⟨l, rfl, q1, q2, q3⟩ := hq
      rw [rngD_len] at hi
      obtain ⟨c, pl', c1, c2, c3, c4⟩ := pick_ok (a := sz) q3 (by omega) h3
      refine ⟨some (.str [97 + c.toNat]), pl', ?_, l ++ [97 + c.toNat], by simp, by simp [q1], fun x hx => (List.mem_append.mp hx).elim (q2 x) fun z => by cases List.mem_singleton.mp z; omega, c3⟩
      simp only [gd_T, e_con, e_glob, e_var, rd_val, rd_own, e_bin, bin1_s, bin2_s, e_neg, neg1_s, e_cmp, cmp1_s, cmp2_s, e_chn, chn1_s, chn2_s, chn3_s, e_isK, isK1_s, e_bools, b_last, b_more, bolC_s, bolD_s, e_not, not1_s, e_ite, ite1_s, ite2_s, es_nil, es_cons, es1_s, es2_s, e_tup, e_lst, tup1_s, lst1_s,
 e_sub, sub1_s, sub2_s, o_none, o_some, o1_s, e_sl, sl1_s, sl2_s, sl3_s, e_rev, rev1_s, e_call, call1_s, e_callP, callP1_s, e_bi, bi1_s, e_me, me1_s, me2_s, e_isi, isi1_s, w_rngE, rng1_s, w_exE, wlk1_s, prL_some, walk_lst, walk_tup, walk_str, e_lc, lc1_s, lc2_s, e_lcP, lcP1_s, e_lc2, lcD1_s, e_lrng, lrng1_s, lrng2_s, e_sset, sset1_s, sset2_s, wipeE_nil, wipeE_cons, t_ev, tst1_s, ss_nil, ss_cons, seq_nx, seq_rt, seq_bk, seq_ct, seq_ite,
 s_asgV, s_asgO, asgV_s, asgO_s, settle_t, settle_c, frz_nil, frz_val, frz_none, frz_pool, frz_own, n_non, n_bl, n_int, n_str, n_lst, n_tup, n_nil, n_cons, s_unp, unp1_s, s_parE, par1_s, setAll_nil, setAll_cons, s_aug, aug1_s, aug2_i, aug2_t, aug3_s, s_app, app1_s, app2_s, s_ret, ret1_s, ret1_ite, s_if, if1_s, s_for, s_forT, for1_s, turnF_s, turnT_s, s_brk, s_cnt, s_pass, frzW_rng, frzW_ex,
 d_ev, d_nx, d_rt, d_ite, and_pure, or_pure, tru_bl, tru_int, tru_non, tru_str, tru_lst, tru_tup, pr_some, pr_gd, prB_some, prT_some, iniE, lawE, List.getElem?_cons_zero, List.getElem?_cons_succ, List.getElem?_nil, List.set_cons_zero, List.set_cons_succ, List.set_nil, List.map_cons, List.map_nil, List.nil_append, List.cons_append, List.append_nil, List.length_cons, List.length_nil, Nat.zero_le, Nat.reduceLeDiff, Nat.reduceAdd, List.replicate, ite_true, ite_false, if_true, if_false, Bool.false_eq_true, reduceIte, reduceCtorEq, ite_self, Bool.true_and, Bool.and_true, Bool.not_true, Bool.not_false, Bool.not_not, Option.map_some, Option.map_none, Pu.sizeLine_eq, cmp_ge, cmp_gt, cmp_le, cmp_lt, eq_i, eq_s, eq_b, ne_i, ne_s, ne_b, in_c, nin_c, op_add_i, op_add_s, op_add_t, op_add_l, op_sub_i, op_mul_r, op_mul_l, op_div_i, op_mod_i, bi_int, bi_intb, len_s, len_l, len_t, bi_list_t, bi_list_l, bi_tuple_t, bi_tuple_l, bi_min2, bi_max2, rev_s, rev_l, rev_t, sub_l, sub_t, sub_s, sl_l, sl_t, sl_s, at0, at1, at2, at3, lct_no, lct_yes, lctP_nm, l2T_nm, l2t1_s, ix_nm, ix_tp, lct1_s, lct2_s, lct3_s, gd_pos, c4, letter_at c1 (show c < 4 by omega)])
  obtain ⟨acc, p2, e2, w, rfl, w1, w2, g2⟩ := lp
  rw [rngD_len] at w1 g2
  obtain ⟨way, p3, y1, y2, g3, e3⟩ := pick_ok (a := 4) g2 (by omega) (by decide)
  have hj := join_c (l := w) (by omega)
  unfold F__law_drawn b__law_drawn
  by_cases hw0 : way = 0 ∧ 1 < n
  · obtain ⟨rfl, hn1⟩ := hw0
    obtain ⟨k, p4, k1, k2, g4, e4⟩ := pick_ok (a := (n : Int) - 1) g3 (by omega) (by omega)
    obtain ⟨kn, hk⟩ := Int.eq_ofNat_of_zero_le (show 0 ≤ 1 + k by omega)
    have hlt : (w.take kn).length = kn := by rw [List.length_take]; omega
    have hfl : ∀ j : Nat, (List.replicate j (w.take kn)).flatten.length = j * kn := fun j => by
      induction j with
      | zero => simp
      | succ j ih => rw [List.replicate_succ, List.flatten_cons, List.length_append, hlt, ih, Nat.succ_mul]; omega
    have hnk : n ≤ n * kn := by
      have : 1 ≤ kn := by omega
      exact Nat.le_mul_of_pos_right n (by omega)
    have hnk2 : kn * n ≤ 3600 := by
      have : kn ≤ 60 := by omega
      calc kn * n ≤ 60 * 60 := Nat.mul_le_mul this hn60
        _ = 3600 := rfl
    refine ⟨((List.replicate n (w.take kn)).flatten).take n, p4, by rw [List.length_take, hfl]; omega, by rw [List.length_take, hfl]; omega, fun c hc => ?_, g4.mono (by omega), ?_⟩
    · have h1 := List.mem_of_mem_take hc
      obtain ⟨l, hl, hc⟩ := List.mem_flatten.mp h1
      rw [List.eq_of_mem_replicate hl] at hc
      exact w2 c (List.mem_of_mem_take hc)
    · have hmul : opBin .Mult (.str (w.take kn)) (.int (n : Int)) = some (.str (List.replicate n (w.take kn)).flatten) := by
        rw [op_mul_s, gd_pos ⟨⟨by omega, by omega⟩, by rw [hlt, Int.toNat_natCast]; omega⟩, Int.toNat_natCast]
      simp (disch := omega) only [gd_T, e_con, e_glob, e_var, rd_val, rd_own, e_bin, bin1_s, bin2_s, e_neg, neg1_s, e_cmp, cmp1_s, cmp2_s, e_chn, chn1_s, chn2_s, chn3_s, e_isK, isK1_s, e_bools, b_last, b_more, bolC_s, bolD_s, e_not, not1_s, e_ite, ite1_s, ite2_s, es_nil, es_cons, es1_s, es2_s, e_tup, e_lst, tup1_s, lst1_s,
 e_sub, sub1_s, sub2_s, o_none, o_some, o1_s, e_sl, sl1_s, sl2_s, sl3_s, e_rev, rev1_s, e_call, call1_s, e_callP, callP1_s, e_bi, bi1_s, e_me, me1_s, me2_s, e_isi, isi1_s, w_rngE, rng1_s, w_exE, wlk1_s, prL_some, walk_lst, walk_tup, walk_str, e_lc, lc1_s, lc2_s, e_lcP, lcP1_s, e_lc2, lcD1_s, e_lrng, lrng1_s, lrng2_s, e_sset, sset1_s, sset2_s, wipeE_nil, wipeE_cons, t_ev, tst1_s, ss_nil, ss_cons, seq_nx, seq_rt, seq_bk, seq_ct, seq_ite,
 s_asgV, s_asgO, asgV_s, asgO_s, settle_t, settle_c, frz_nil, frz_val, frz_none, frz_pool, frz_own, n_non, n_bl, n_int, n_str, n_lst, n_tup, n_nil, n_cons, s_unp, unp1_s, s_parE, par1_s, setAll_nil, setAll_cons, s_aug, aug1_s, aug2_i, aug2_t, aug3_s, s_app, app1_s, app2_s, s_ret, ret1_s, ret1_ite, s_if, if1_s, s_for, s_forT, for1_s, turnF_s, turnT_s, s_brk, s_cnt, s_pass, frzW_rng, frzW_ex,
 d_ev, d_nx, d_rt, d_ite, and_pure, or_pure, tru_bl, tru_int, tru_non, tru_str, tru_lst, tru_tup, pr_some, pr_gd, prB_some, prT_some, iniE, lawE, List.getElem?_cons_zero, List.getElem?_cons_succ, List.getElem?_nil, List.set_cons_zero, List.set_cons_succ, List.set_nil, List.map_cons, List.map_nil, List.nil_append, List.cons_append, List.append_nil, List.length_cons, List.length_nil, Nat.zero_le, Nat.reduceLeDiff, Nat.reduceAdd, List.replicate, ite_true, ite_false, if_true, if_false, Bool.false_eq_true, reduceIte, reduceCtorEq, ite_self, Bool.true_and, Bool.and_true, Bool.not_true, Bool.not_false, Bool.not_not, Option.map_some, Option.map_none, Pu.sizeLine_eq, cmp_ge, cmp_gt, cmp_le, cmp_lt, eq_i, eq_s, eq_b, ne_i, ne_s, ne_b, in_c, nin_c, op_add_i, op_add_s, op_add_t, op_add_l, op_sub_i, op_mul_r, op_mul_l, op_div_i, op_mod_i, bi_int, bi_intb, len_s, len_l, len_t, bi_list_t, bi_list_l, bi_tuple_t, bi_tuple_l, bi_min2, bi_max2, rev_s, rev_l, rev_t, sub_l, sub_t, sub_s, sl_l, sl_t, sl_s, at0, at1, at2, at3, lct_no, lct_yes, lctP_nm, l2T_nm, l2t1_s, ix_nm, ix_tp, lct1_s, lct2_s, lct3_s, gd_pos, e1, hn, rngL_nat, e2, List.length_map, w1, hj, e3, beq_self_eq_true, hn1, show (1 : Int) < (n : Int) by omega, decide_true, e4, hk, cut_hi, hmul, hfl, show n * kn ≤ 16777216 by rw [Nat.mul_comm]; omega]
      simp (disch := omega) only [gd_T, e_con, e_glob, e_var, rd_val, rd_own, e_bin, bin1_s, bin2_s, e_neg, neg1_s, e_cmp, cmp1_s, cmp2_s, e_chn, chn1_s, chn2_s, chn3_s, e_isK, isK1_s, e_bools, b_last, b_more, bolC_s, bolD_s, e_not, not1_s, e_ite, ite1_s, ite2_s, es_nil, es_cons, es1_s, es2_s, e_tup, e_lst, tup1_s, lst1_s,
 e_sub, sub1_s, sub2_s, o_none, o_some, o1_s, e_sl, sl1_s, sl2_s, sl3_s, e_rev, rev1_s, e_call, call1_s, e_callP, callP1_s, e_bi, bi1_s, e_me, me1_s, me2_s, e_isi, isi1_s, w_rngE, rng1_s, w_exE, wlk1_s, prL_some, walk_lst, walk_tup, walk_str, e_lc, lc1_s, lc2_s, e_lcP, lcP1_s, e_lc2, lcD1_s, e_lrng, lrng1_s, lrng2_s, e_sset, sset1_s, sset2_s, wipeE_nil, wipeE_cons, t_ev, tst1_s, ss_nil, ss_cons, seq_nx, seq_rt, seq_bk, seq_ct, seq_ite,
 s_asgV, s_asgO, asgV_s, asgO_s, settle_t, settle_c, frz_nil, frz_val, frz_none, frz_pool, frz_own, n_non, n_bl, n_int, n_str, n_lst, n_tup, n_nil, n_cons, s_unp, unp1_s, s_parE, par1_s, setAll_nil, setAll_cons, s_aug, aug1_s, aug2_i, aug2_t, aug3_s, s_app, app1_s, app2_s, s_ret, ret1_s, ret1_ite, s_if, if1_s, s_for, s_forT, for1_s, turnF_s, turnT_s, s_brk, s_cnt, s_pass, frzW_rng, frzW_ex,
 d_ev, d_nx, d_rt, d_ite, and_pure, or_pure, tru_bl, tru_int, tru_non, tru_str, tru_lst, tru_tup, pr_some, pr_gd, prB_some, prT_some, iniE, lawE, List.getElem?_cons_zero, List.getElem?_cons_succ, List.getElem?_nil, List.set_cons_zero, List.set_cons_succ, List.set_nil, List.map_cons, List.map_nil, List.nil_append, List.cons_append, List.append_nil, List.length_cons, List.length_nil, Nat.zero_le, Nat.reduceLeDiff, Nat.reduceAdd, List.replicate, ite_true, ite_false, if_true, if_false, Bool.false_eq_true, reduceIte, reduceCtorEq, ite_self, Bool.true_and, Bool.and_true, Bool.not_true, Bool.not_false, Bool.not_not, Option.map_some, Option.map_none, Pu.sizeLine_eq, cmp_ge, cmp_gt, cmp_le, cmp_lt, eq_i, eq_s, eq_b, ne_i, ne_s, ne_b, in_c, nin_c, op_add_i, op_add_s, op_add_t, op_add_l, op_sub_i, op_mul_r, op_mul_l, op_div_i, op_mod_i, bi_int, bi_intb, len_s, len_l, len_t, bi_list_t, bi_list_l, bi_tuple_t, bi_tuple_l, bi_min2, bi_max2, rev_s, rev_l, rev_t, sub_l, sub_t, sub_s, sl_l, sl_t, sl_s, at0, at1, at2, at3, lct_no, lct_yes, lctP_nm, l2T_nm, l2t1_s, ix_nm, ix_tp, lct1_s, lct2_s, lct3_s, gd_pos, show ((0 : Int) == 1) = false from rfl]
  · have hb0 : ¬ (way = 0 ∧ (1 : Int) < (n : Int)) := fun z => hw0 ⟨z.1, by omega⟩
    by_cases hw1 : way = 1 ∧ 1 < n
    · obtain ⟨rfl, hn1⟩ := hw1
      have hh : ((n : Int) / 2) = ((n / 2 : Nat) : Int) := by omega
      have hs : ((n : Int) - ((n / 2 : Nat) : Int)) = ((n - n / 2 : Nat) : Int) := by omega
      refine ⟨w.take (n - n / 2) ++ (w.take (n / 2)).reverse, p3, by simp only [List.length_append, List.length_take, List.length_reverse]; omega, by simp only [List.length_append, List.length_take, List.length_reverse]; omega, fun c hc => ?_, g3.mono (by omega), ?_⟩
      · rcases List.mem_append.mp hc with hc | hc
        · exact w2 c (List.mem_of_mem_take hc)
        · exact w2 c (List.mem_of_mem_take (List.mem_reverse.mp hc))
      · simp (disch := omega) only [gd_T, e_con, e_glob, e_var, rd_val, rd_own, e_bin, bin1_s, bin2_s, e_neg, neg1_s, e_cmp, cmp1_s, cmp2_s, e_chn, chn1_s, chn2_s, chn3_s, e_isK, isK1_s, e_bools, b_last, b_more, bolC_s, bolD_s, e_not, not1_s, e_ite, ite1_s, ite2_s, es_nil, es_cons, es1_s, es2_s, e_tup, e_lst, tup1_s, lst1_s,
 e_sub, sub1_s, sub2_s, o_none, o_some, o1_s, e_sl, sl1_s, sl2_s, sl3_s, e_rev, rev1_s, e_call, call1_s, e_callP, callP1_s, e_bi, bi1_s, e_me, me1_s, me2_s, e_isi, isi1_s, w_rngE, rng1_s, w_exE, wlk1_s, prL_some, walk_lst, walk_tup, walk_str, e_lc, lc1_s, lc2_s, e_lcP, lcP1_s, e_lc2, lcD1_s, e_lrng, lrng1_s, lrng2_s, e_sset, sset1_s, sset2_s, wipeE_nil, wipeE_cons, t_ev, tst1_s, ss_nil, ss_cons, seq_nx, seq_rt, seq_bk, seq_ct, seq_ite,
 s_asgV, s_asgO, asgV_s, asgO_s, settle_t, settle_c, frz_nil, frz_val, frz_none, frz_pool, frz_own, n_non, n_bl, n_int, n_str, n_lst, n_tup, n_nil, n_cons, s_unp, unp1_s, s_parE, par1_s, setAll_nil, setAll_cons, s_aug, aug1_s, aug2_i, aug2_t, aug3_s, s_app, app1_s, app2_s, s_ret, ret1_s, ret1_ite, s_if, if1_s, s_for, s_forT, for1_s, turnF_s, turnT_s, s_brk, s_cnt, s_pass, frzW_rng, frzW_ex,
 d_ev, d_nx, d_rt, d_ite, and_pure, or_pure, tru_bl, tru_int, tru_non, tru_str, tru_lst, tru_tup, pr_some, pr_gd, prB_some, prT_some, iniE, lawE, List.getElem?_cons_zero, List.getElem?_cons_succ, List.getElem?_nil, List.set_cons_zero, List.set_cons_succ, List.set_nil, List.map_cons, List.map_nil, List.nil_append, List.cons_append, List.append_nil, List.length_cons, List.length_nil, Nat.zero_le, Nat.reduceLeDiff, Nat.reduceAdd, List.replicate, ite_true, ite_false, if_true, if_false, Bool.false_eq_true, reduceIte, reduceCtorEq, ite_self, Bool.true_and, Bool.and_true, Bool.not_true, Bool.not_false, Bool.not_not, Option.map_some, Option.map_none, Pu.sizeLine_eq, cmp_ge, cmp_gt, cmp_le, cmp_lt, eq_i, eq_s, eq_b, ne_i, ne_s, ne_b, in_c, nin_c, op_add_i, op_add_s, op_add_t, op_add_l, op_sub_i, op_mul_r, op_mul_l, op_div_i, op_mod_i, bi_int, bi_intb, len_s, len_l, len_t, bi_list_t, bi_list_l, bi_tuple_t, bi_tuple_l, bi_min2, bi_max2, rev_s, rev_l, rev_t, sub_l, sub_t, sub_s, sl_l, sl_t, sl_s, at0, at1, at2, at3, lct_no, lct_yes, lctP_nm, l2T_nm, l2t1_s, ix_nm, ix_tp, lct1_s, lct2_s, lct3_s, gd_pos, e1, hn, rngL_nat, e2, List.length_map, w1, hj, e3, beq_self_eq_true, show (1 : Int) < (n : Int) by omega, decide_true, show ((1 : Int) == 0) = false from rfl, hh, hs, cut_hi, List.length_take, List.length_reverse]
    · have hb1 : ¬ (way = 1 ∧ (1 : Int) < (n : Int)) := fun z => hw1 ⟨z.1, by omega⟩
      refine ⟨w, p3, by omega, by omega, w2, g3.mono (by omega), ?_⟩
      have t0 : (way == 0 && decide ((1 : Int) < (n : Int))) = false := by
        rw [Bool.and_eq_false_iff]
        by_cases h : way = 0
        · exact .inr (decide_eq_false fun z => hb0 ⟨h, z⟩)
        · exact .inl (by simpa using h)
      have t1 : (way == 1 && decide ((1 : Int) < (n : Int))) = false := by
        rw [Bool.and_eq_false_iff]
        by_cases h : way = 1
        · exact .inr (decide_eq_false fun z => hb1 ⟨h, z⟩)
        · exact .inl (by simpa using h)
      simp (disch := omega) only [gd_T, e_con, e_glob, e_var, rd_val, rd_own, e_bin, bin1_s, bin2_s, e_neg, neg1_s, e_cmp, cmp1_s, cmp2_s, e_chn, chn1_s, chn2_s, chn3_s, e_isK, isK1_s, e_bools, b_last, b_more, bolC_s, bolD_s, e_not, not1_s, e_ite, ite1_s, ite2_s, es_nil, es_cons, es1_s, es2_s, e_tup, e_lst, tup1_s, lst1_s,
 e_sub, sub1_s, sub2_s, o_none, o_some, o1_s, e_sl, sl1_s, sl2_s, sl3_s, e_rev, rev1_s, e_call, call1_s, e_callP, callP1_s, e_bi, bi1_s, e_me, me1_s, me2_s, e_isi, isi1_s, w_rngE, rng1_s, w_exE, wlk1_s, prL_some, walk_lst, walk_tup, walk_str, e_lc, lc1_s, lc2_s, e_lcP, lcP1_s, e_lc2, lcD1_s, e_lrng, lrng1_s, lrng2_s, e_sset, sset1_s, sset2_s, wipeE_nil, wipeE_cons, t_ev, tst1_s, ss_nil, ss_cons, seq_nx, seq_rt, seq_bk, seq_ct, seq_ite,
 s_asgV, s_asgO, asgV_s, asgO_s, settle_t, settle_c, frz_nil, frz_val, frz_none, frz_pool, frz_own, n_non, n_bl, n_int, n_str, n_lst, n_tup, n_nil, n_cons, s_unp, unp1_s, s_parE, par1_s, setAll_nil, setAll_cons, s_aug, aug1_s, aug2_i, aug2_t, aug3_s, s_app, app1_s, app2_s, s_ret, ret1_s, ret1_ite, s_if, if1_s, s_for, s_forT, for1_s, turnF_s, turnT_s, s_brk, s_cnt, s_pass, frzW_rng, frzW_ex,
 d_ev, d_nx, d_rt, d_ite, and_pure, or_pure, tru_bl, tru_int, tru_non, tru_str, tru_lst, tru_tup, pr_some, pr_gd, prB_some, prT_some, iniE, lawE, List.getElem?_cons_zero, List.getElem?_cons_succ, List.getElem?_nil, List.set_cons_zero, List.set_cons_succ, List.set_nil, List.map_cons, List.map_nil, List.nil_append, List.cons_append, List.append_nil, List.length_cons, List.length_nil, Nat.zero_le, Nat.reduceLeDiff, Nat.reduceAdd, List.replicate, ite_true, ite_false, if_true, if_false, Bool.false_eq_true, reduceIte, reduceCtorEq, ite_self, Bool.true_and, Bool.and_true, Bool.not_true, Bool.not_false, Bool.not_not, Option.map_some, Option.map_none, Pu.sizeLine_eq, cmp_ge, cmp_gt, cmp_le, cmp_lt, eq_i, eq_s, eq_b, ne_i, ne_s, ne_b, in_c, nin_c, op_add_i, op_add_s, op_add_t, op_add_l, op_sub_i, op_mul_r, op_mul_l, op_div_i, op_mod_i, bi_int, bi_intb, len_s, len_l, len_t, bi_list_t, bi_list_l, bi_tuple_t, bi_tuple_l, bi_min2, bi_max2, rev_s, rev_l, rev_t, sub_l, sub_t, sub_s, sl_l, sl_t, sl_s, at0, at1, at2, at3, lct_no, lct_yes, lctP_nm, l2T_nm, l2t1_s, ix_nm, ix_tp, lct1_s, lct2_s, lct3_s, gd_pos, e1, hn, rngL_nat, e2, List.length_map, w1, hj, e3, t0, t1]
end Pu
set_option Elab.async false
set_option linter.all false
set_option maxRecDepth 100000
set_option maxHeartbeats 1000000
namespace Pu
open PySem PySem.Spec PyProof.Rows L2

/-! ### how big a value is -/
mutual
def szD (n : Nat) : D → Prop
  | .str l => l.length ≤ n ∧ ∀ c ∈ l, c < 1114112
  | .int i => -(n : Int) ≤ i ∧ i ≤ n
  | .lst l => l.length ≤ n ∧ szDs n l
  | .tup l => l.length ≤ n ∧ szDs n l
  | _ => True
def szDs (n : Nat) : List D → Prop
  | [] => True
  | x :: l => szD n x ∧ szDs n l
end
mutual
theorem szD.mono {n k : Nat} (h : n ≤ k) : ∀ {d : D}, szD n d → szD k d
  | .non, _ => by rw [szD] <;> simp
  | .bl _, _ => by rw [szD] <;> simp
  | .int i, q => by rw [szD] at q ⊢; omega
  | .str l, q => by rw [szD] at q ⊢; exact ⟨by omega, q.2⟩
  | .lst l, q => by rw [szD] at q ⊢; exact ⟨by omega, szDs.mono h q.2⟩
  | .tup l, q => by rw [szD] at q ⊢; exact ⟨by omega, szDs.mono h q.2⟩
theorem szDs.mono {n k : Nat} (h : n ≤ k) : ∀ {l : List D}, szDs n l → szDs k l
  | [], _ => by rw [szDs]; trivial
  | x :: l, q => by rw [szDs] at q ⊢; exact ⟨szD.mono h q.1, szDs.mono h q.2⟩
end
theorem szDs_iff {n : Nat} : ∀ {l : List D}, szDs n l ↔ ∀ x ∈ l, szD n x
  | [] => by rw [szDs]; simp
  | x :: l => by rw [szDs, szDs_iff]; simp
theorem dep_le {l : List D} {x : D} (h : x ∈ l) : depD x ≤ depDs l := by
  induction l with
  | nil => cases h
  | cons y l ih =>
    rw [depDs]
    rcases List.mem_cons.mp h with rfl | h
    · exact Nat.le_max_left ..
    · exact Nat.le_trans (ih h) (Nat.le_max_right ..)
theorem depDs_max {l : List D} {k : Nat} (h : ∀ x ∈ l, depD x ≤ k) : depDs l ≤ k := by
  induction l with
  | nil => rw [depDs]; omega
  | cons y l ih =>
    rw [depDs]
    exact Nat.max_le.mpr ⟨h y List.mem_cons_self, ih fun x hx => h x (List.mem_cons_of_mem _ hx)⟩
theorem decL_sz (i : Int) : (decL i).length ≤ i.natAbs + 2 ∧ ∀ c ∈ decL i, c < 1114112 := by
  have hd : ∀ m : Nat, ∀ c ∈ (Nat.toDigits 10 m).map Char.toNat, c < 1114112 := fun m c hc => by
    obtain ⟨x, _, rfl⟩ := List.mem_map.mp hc
    have := x.valid
    rcases this with h | h
    · have : x.toNat < 55296 := h; omega
    · have : x.toNat < 1114112 := h.2; omega
  cases i with
  | ofNat m =>
    unfold decL
    rw [text_ofNat]
    refine ⟨?_, hd m⟩
    have := tDigits_len_le 10 m
    simp only [List.length_map]
    have e : (Int.ofNat m).natAbs = m := rfl
    omega
  | negSucc m =>
    unfold decL
    have e : (Str.ofString (toString (Int.negSucc m))).cps.toList = 45 :: (Nat.toDigits 10 (m + 1)).map Char.toNat := by
      show (Str.ofString ("-" ++ Nat.repr (m + 1))).cps.toList = _
      rw [Str.ofString_eq_toList]
      simp [Nat.toList_repr]
    rw [e]
    refine ⟨?_, fun c hc => ?_⟩
    · have := tDigits_len_le 10 (m + 1)
      simp only [List.length_cons, List.length_map]
      have e : (Int.negSucc m).natAbs = m + 1 := rfl
      omega
    · rcases List.mem_cons.mp hc with rfl | hc
      · omega
      · exact hd _ c hc
def b__law_bend (F__law_bend : Fnc) : Sts := (.cons (.asg false 3 (.bi .int (.cons (.sub (.var 1) (.bin .Mod (.var 2) (.bi .len (.cons (.var 1) .nil)))) .nil))) (.cons (.ite (.bools true (.cons (.isi (.var 0) .tuple) (.cons (.cmp .Gt (.bi .len (.cons (.var 0) .nil)) (.con (.int 0))) (.cons (.cmp .Gt (.bin .Mod (.var 3) (.con (.int 5))) (.con (.int 0))) .nil)))) (.cons (.asg false 4 (.bin .Mod (.bin .FloorDiv (.var 3) (.con (.int 5))) (.bi .len (.cons (.var 0) .nil)))) (.cons (.ret (.bin .Add (.bin .Add (.sl (.var 0) .no (.yes (.var 4))) (.tup (.cons (.call "_law_bend" 3 F__law_bend (.cons (.sub (.var 0) (.var 4)) (.cons (.var 1) (.cons (.bin .Add (.var 2) (.con (.int 1))) .nil)))) .nil))) (.sl (.var 0) (.yes (.bin .Add (.var 4) (.con (.int 1)))) .no))) .nil)) .nil) (.cons (.asg false 5 (.bin .Mod (.bin .FloorDiv (.var 3) (.con (.int 5))) (.con (.int 7)))) (.cons (.ite (.isi (.var 0) .tuple) (.cons (.ret (.sub (.lst (.cons (.bin .Add (.var 0) (.tup (.cons (.con (.int 0)) .nil))) (.cons (.sl (.var 0) .no (.yes (.neg (.con (.int 1))))) (.cons (.bi .list (.cons (.var 0) .nil)) (.cons (.rev (.var 0)) (.cons (.con .non) (.cons (.bin .Add (.var 0) (.sl (.var 0) (.yes (.neg (.con (.int 1)))) .no)) (.cons (.tup (.cons (.var 0) .nil)) .nil)))))))) (.var 5))) .nil) .nil) (.cons (.ite (.isi (.var 0) .str) (.cons (.ret (.sub (.lst (.cons (.bin .Add (.var 0) (.con (.str [115]))) (.cons (.con (.str [])) (.cons (.con (.int 0)) (.cons (.con (.str [115, 116, 101, 112, 115])) (.cons (.con (.str [98, 105, 116, 115])) (.cons (.con (.str [115, 111, 109, 101])) (.cons (.con .non) .nil)))))))) (.var 5))) .nil) .nil) (.cons (.ite (.bools false (.cons (.isi (.var 0) .bool) (.cons (.notE (.isi (.var 0) .int)) .nil))) (.cons (.ret (.con (.int 0))) .nil) .nil) (.cons (.ret (.sub (.lst (.cons (.bin .Add (.var 0) (.con (.int 1))) (.cons (.bin .Sub (.var 0) (.con (.int 1))) (.cons (.bin .Add (.var 0) (.con (.int 2))) (.cons (.cmp .Eq (.var 0) (.con (.int 1))) (.cons (.bi .str (.cons (.var 0) .nil)) (.cons (.neg (.var 0)) (.cons (.bin .Add (.var 0) (.con (.int 9))) .nil)))))))) (.var 5))) .nil)))))))
def F__law_bend_at : Nat → Fnc
  | 0 => fun _ _ => none
  | m + 1 => fun ds pl => evD fuel (b__law_bend (F__law_bend_at m)) 6 false ds pl
abbrev F__law_bend : Fnc := F__law_bend_at 40
theorem at_mem {α : Type} {L : List α} {w : Int} (h0 : 0 ≤ w) (h1 : w < L.length) : ∃ x, atI L w = some x ∧ x ∈ L := by
  rw [atI_nn h0]
  exact ⟨L[w.toNat], List.getElem?_eq_getElem (by omega), List.getElem_mem _⟩
theorem s_non {n : Nat} : szD n .non := by rw [szD] <;> simp
theorem s_bl {n : Nat} {b : Bool} : szD n (.bl b) := by rw [szD] <;> simp
theorem s_int {n : Nat} {i : Int} : szD n (.int i) ↔ -(n : Int) ≤ i ∧ i ≤ n := by rw [szD]
theorem s_str {n : Nat} {l : List Nat} : szD n (.str l) ↔ l.length ≤ n ∧ ∀ c ∈ l, c < 1114112 := by rw [szD]
theorem s_lst {n : Nat} {l : List D} : szD n (.lst l) ↔ l.length ≤ n ∧ ∀ x ∈ l, szD n x := by rw [szD, szDs_iff]
theorem s_tup {n : Nat} {l : List D} : szD n (.tup l) ↔ l.length ≤ n ∧ ∀ x ∈ l, szD n x := by rw [szD, szDs_iff]
theorem d_lst {l : List D} : depD (.lst l) = depDs l + 1 := by rw [depD]
theorem d_tup {l : List D} : depD (.tup l) = depDs l + 1 := by rw [depD]
theorem d_str {l : List Nat} : depD (.str l) = 0 := by simp [depD]
theorem d_int {l : Int} : depD (.int l) = 0 := by simp [depD]
theorem d_bl {l : Bool} : depD (.bl l) = 0 := by simp [depD]
theorem d_non : depD .non = 0 := by simp [depD]
theorem mem_init {α : Type} {l : List α} {x : α} (h : x ∈ l.dropLast) : x ∈ l := by
  rw [List.dropLast_eq_take] at h
  exact List.mem_of_mem_take h
theorem log_small {a : Nat} (h : a ≤ 10000000) : a.log2 < 1920 := by
  by_cases h0 : a = 0
  · subst h0; decide
  · exact (Nat.log2_lt h0).mpr (Nat.lt_of_le_of_lt h (Nat.lt_of_lt_of_le (show 10000000 < 2 ^ 24 by decide) (Nat.pow_le_pow_right (by decide) (by decide))))
theorem bend_ok : ∀ (m : Nat) {l : List Int} {pl : Pool}, Draws l → ∀ {n : Nat} {v : D} {a : Int}, n ≤ 1000000 → szD n v → depD v < m → 0 ≤ a →
    ∃ v', F__law_bend_at m [v, .lst (l.map .int), .int a] pl = some (v', pl) ∧ szD (n + 9) v' ∧ depD v' ≤ depD v + 1
  | 0, l, pl, hl, n, v, a, hn, hs, hd, ha => absurd hd (by omega)
  | m + 1, l, pl, hl, n, v, a, hn, hs, hd, ha => by
    obtain ⟨x, hx, x0, x1⟩ := hl.at (i := a % 40) (by omega) (by omega)
    have hlen := hl.len
    show ∃ v', evD fuel (b__law_bend (F__law_bend_at m)) 6 false [v, .lst (l.map .int), .int a] pl = some (v', pl) ∧ _
    unfold b__law_bend
    have e40 : ((40 : Nat) : Int) = 40 := rfl
    have w0 : 0 ≤ x / 5 % 7 := by omega
    have w7 : x / 5 % 7 < 7 := by omega
    cases v with
    | tup L =>
      rw [s_tup] at hs
      rw [d_tup] at hd ⊢
      obtain ⟨hL, hs⟩ := hs
      have plain : ∃ v', evD1 (evSs fuel (.cons (.asg false 5 (.bin .Mod (.bin .FloorDiv (.var 3) (.con (.int 5))) (.con (.int 7)))) (.cons (.ite (.isi (.var 0) .tuple) (.cons (.ret (.sub (.lst (.cons (.bin .Add (.var 0) (.tup (.cons (.con (.int 0)) .nil))) (.cons (.sl (.var 0) .no (.yes (.neg (.con (.int 1))))) (.cons (.bi .list (.cons (.var 0) .nil)) (.cons (.rev (.var 0)) (.cons (.con .non) (.cons (.bin .Add (.var 0) (.sl (.var 0) (.yes (.neg (.con (.int 1)))) .no)) (.cons (.tup (.cons (.var 0) .nil)) .nil)))))))) (.var 5))) .nil) .nil) (.cons (.ite (.isi (.var 0) .str) (.cons (.ret (.sub (.lst (.cons (.bin .Add (.var 0) (.con (.str [115]))) (.cons (.con (.str [])) (.cons (.con (.int 0)) (.cons (.con (.str [115, 116, 101, 112, 115])) (.cons (.con (.str [98, 105, 116, 115])) (.cons (.con (.str [115, 111, 109, 101])) (.cons (.con .non) .nil)))))))) (.var 5))) .nil) .nil) (.cons (.ite (.bools false (.cons (.isi (.var 0) .bool) (.cons (.notE (.isi (.var 0) .int)) .nil))) (.cons (.ret (.con (.int 0))) .nil) .nil) (.cons (.ret (.sub (.lst (.cons (.bin .Add (.var 0) (.con (.int 1))) (.cons (.bin .Sub (.var 0) (.con (.int 1))) (.cons (.bin .Add (.var 0) (.con (.int 2))) (.cons (.cmp .Eq (.var 0) (.con (.int 1))) (.cons (.bi .str (.cons (.var 0) .nil)) (.cons (.neg (.var 0)) (.cons (.bin .Add (.var 0) (.con (.int 9))) .nil)))))))) (.var 5))) .nil))))) [.val (.tup L), .val (.lst (l.map .int)), .val (.int a), .val (.int x), .none, .none] pl) = some (v', pl) ∧ szD (n + 9) v' ∧ depD v' ≤ depDs L + 1 + 1 := by
        obtain ⟨y, hy, hm⟩ := at_mem (α := D) (L := [.tup (L ++ [.int 0]), .tup L.dropLast, .lst L, .tup L.reverse, .non, .tup (L ++ L.drop (L.length - 1)), .tup [.tup L]]) w0 w7
        refine ⟨y, ?_, ?_⟩
        · have h1 : L.length + (L.drop (L.length - 1)).length ≤ 16777216 := by rw [List.length_drop]; omega
          simp (disch := omega) only [gd_T, e_con, e_glob, e_var, rd_val, rd_own, e_bin, bin1_s, bin2_s, e_neg, neg1_s, e_cmp, cmp1_s, cmp2_s, e_chn, chn1_s, chn2_s, chn3_s, e_isK, isK1_s, e_bools, b_last, b_more, bolC_s, bolD_s, e_not, not1_s, e_ite, ite1_s, ite2_s, es_nil, es_cons, es1_s, es2_s, e_tup, e_lst, tup1_s, lst1_s,
 e_sub, sub1_s, sub2_s, o_none, o_some, o1_s, e_sl, sl1_s, sl2_s, sl3_s, e_rev, rev1_s, e_call, call1_s, e_callP, callP1_s, e_bi, bi1_s, e_me, me1_s, me2_s, e_isi, isi1_s, w_rngE, rng1_s, w_exE, wlk1_s, prL_some, walk_lst, walk_tup, walk_str, e_lc, lc1_s, lc2_s, e_lcP, lcP1_s, e_lc2, lcD1_s, e_lrng, lrng1_s, lrng2_s, e_sset, sset1_s, sset2_s, wipeE_nil, wipeE_cons, t_ev, tst1_s, ss_nil, ss_cons, seq_nx, seq_rt, seq_bk, seq_ct, seq_ite,
 s_asgV, s_asgO, asgV_s, asgO_s, settle_t, settle_c, frz_nil, frz_val, frz_none, frz_pool, frz_own, n_non, n_bl, n_int, n_str, n_lst, n_tup, n_nil, n_cons, s_unp, unp1_s, s_parE, par1_s, setAll_nil, setAll_cons, s_aug, aug1_s, aug2_i, aug2_t, aug3_s, s_app, app1_s, app2_s, s_ret, ret1_s, ret1_ite, s_if, if1_s, s_for, s_forT, for1_s, turnF_s, turnT_s, s_brk, s_cnt, s_pass, frzW_rng, frzW_ex,
 d_ev, d_nx, d_rt, d_ite, and_pure, or_pure, tru_bl, tru_int, tru_non, tru_str, tru_lst, tru_tup, pr_some, pr_gd, prB_some, prT_some, iniE, lawE, List.getElem?_cons_zero, List.getElem?_cons_succ, List.getElem?_nil, List.set_cons_zero, List.set_cons_succ, List.set_nil, List.map_cons, List.map_nil, List.nil_append, List.cons_append, List.append_nil, List.length_cons, List.length_nil, Nat.zero_le, Nat.reduceLeDiff, Nat.reduceAdd, List.replicate, ite_true, ite_false, if_true, if_false, Bool.false_eq_true, reduceIte, reduceCtorEq, ite_self, Bool.true_and, Bool.and_true, Bool.not_true, Bool.not_false, Bool.not_not, Option.map_some, Option.map_none, Pu.sizeLine_eq, cmp_ge, cmp_gt, cmp_le, cmp_lt, eq_i, eq_s, eq_b, ne_i, ne_s, ne_b, in_c, nin_c, op_add_i, op_add_s, op_add_t, op_add_l, op_sub_i, op_mul_r, op_mul_l, op_div_i, op_mod_i, bi_int, bi_intb, len_s, len_l, len_t, bi_list_t, bi_list_l, bi_tuple_t, bi_tuple_l, bi_min2, bi_max2, rev_s, rev_l, rev_t, sub_l, sub_t, sub_s, sl_l, sl_t, sl_s, at0, at1, at2, at3, lct_no, lct_yes, lctP_nm, l2T_nm, l2t1_s, ix_nm, ix_tp, lct1_s, lct2_s, lct3_s, gd_pos, isTy, cut_init, cut_last, h1, hy]
        · have hall : ∀ z ∈ L, szD (n + 9) z := fun z hz => (hs z hz).mono (by omega)
          have hdep : ∀ z ∈ L, depD z ≤ depDs L := fun z hz => dep_le hz
          simp only [List.mem_cons, List.not_mem_nil, or_false] at hm
          rcases hm with rfl | rfl | rfl | rfl | rfl | rfl | rfl
          · rw [s_tup, d_tup]
            refine ⟨⟨by simp; omega, fun z hz => ?_⟩, Nat.succ_le_succ (depDs_max fun z hz => ?_)⟩
            · rcases List.mem_append.mp hz with hz | hz
              · exact hall z hz
              · cases List.mem_singleton.mp hz; rw [s_int]; omega
            · rcases List.mem_append.mp hz with hz | hz
              · have := hdep z hz; omega
              · cases List.mem_singleton.mp hz; rw [d_int]; omega
          · rw [s_tup, d_tup]
            exact ⟨⟨by simp; omega, fun z hz => hall z (mem_init hz)⟩, Nat.succ_le_succ (depDs_max fun z hz => by have := hdep z (mem_init hz); omega)⟩
          · rw [s_lst, d_lst]
            exact ⟨⟨by omega, hall⟩, by omega⟩
          · rw [s_tup, d_tup]
            exact ⟨⟨by simp; omega, fun z hz => hall z (List.mem_reverse.mp hz)⟩, Nat.succ_le_succ (depDs_max fun z hz => by have := hdep z (List.mem_reverse.mp hz); omega)⟩
          · exact ⟨s_non, by rw [d_non]; omega⟩
          · rw [s_tup, d_tup]
            refine ⟨⟨by rw [List.length_append, List.length_drop]; omega, fun z hz => ?_⟩, Nat.succ_le_succ (depDs_max fun z hz => ?_)⟩
            · rcases List.mem_append.mp hz with hz | hz
              · exact hall z hz
              · exact hall z (List.mem_of_mem_drop hz)
            · rcases List.mem_append.mp hz with hz | hz
              · have := hdep z hz; omega
              · have := hdep z (List.mem_of_mem_drop hz); omega
          · rw [s_tup, d_tup]
            refine ⟨⟨by simp, fun z hz => ?_⟩, Nat.succ_le_succ (depDs_max fun z hz => ?_)⟩
            · cases List.mem_singleton.mp hz; rw [s_tup]; exact ⟨by omega, hall⟩
            · cases List.mem_singleton.mp hz; rw [d_tup]; omega
      by_cases hc : 0 < L.length ∧ 0 < x % 5
      · obtain ⟨c1, c2⟩ := hc
        obtain ⟨k, hk⟩ := Int.eq_ofNat_of_zero_le (show 0 ≤ x / 5 % (L.length : Int) from Int.emod_nonneg _ (by omega))
        have hkl : k < L.length := by
          have := Int.emod_lt_of_pos (x / 5) (show (0 : Int) < L.length by omega)
          omega
        have hmem : L[k] ∈ L := List.getElem_mem _
        obtain ⟨v', e', s', d'⟩ := bend_ok m (pl := pl) hl (a := a + 1) hn (hs _ hmem) (by have := dep_le hmem; omega) (by omega)
        have hLk : L[k]? = some L[k] := List.getElem?_eq_getElem hkl
        have hk1 : (k : Int) + 1 = ((k + 1 : Nat) : Int) := by omega
        refine ⟨.tup ((L.take k ++ [v']) ++ L.drop (k + 1)), ?_, ?_, ?_⟩
        · have q1 : (0 : Int) < (L.length : Int) := by omega
          have q2 : (L.take k).length + 1 ≤ 16777216 := by rw [List.length_take]; omega
          have q3 : (L.take k ++ [v']).length + (L.drop (k + 1)).length ≤ 16777216 := by simp; omega
          simp (disch := omega) only [gd_T, e_con, e_glob, e_var, rd_val, rd_own, e_bin, bin1_s, bin2_s, e_neg, neg1_s, e_cmp, cmp1_s, cmp2_s, e_chn, chn1_s, chn2_s, chn3_s, e_isK, isK1_s, e_bools, b_last, b_more, bolC_s, bolD_s, e_not, not1_s, e_ite, ite1_s, ite2_s, es_nil, es_cons, es1_s, es2_s, e_tup, e_lst, tup1_s, lst1_s,
 e_sub, sub1_s, sub2_s, o_none, o_some, o1_s, e_sl, sl1_s, sl2_s, sl3_s, e_rev, rev1_s, e_call, call1_s, e_callP, callP1_s, e_bi, bi1_s, e_me, me1_s, me2_s, e_isi, isi1_s, w_rngE, rng1_s, w_exE, wlk1_s, prL_some, walk_lst, walk_tup, walk_str, e_lc, lc1_s, lc2_s, e_lcP, lcP1_s, e_lc2, lcD1_s, e_lrng, lrng1_s, lrng2_s, e_sset, sset1_s, sset2_s, wipeE_nil, wipeE_cons, t_ev, tst1_s, ss_nil, ss_cons, seq_nx, seq_rt, seq_bk, seq_ct, seq_ite,
 s_asgV, s_asgO, asgV_s, asgO_s, settle_t, settle_c, frz_nil, frz_val, frz_none, frz_pool, frz_own, n_non, n_bl, n_int, n_str, n_lst, n_tup, n_nil, n_cons, s_unp, unp1_s, s_parE, par1_s, setAll_nil, setAll_cons, s_aug, aug1_s, aug2_i, aug2_t, aug3_s, s_app, app1_s, app2_s, s_ret, ret1_s, ret1_ite, s_if, if1_s, s_for, s_forT, for1_s, turnF_s, turnT_s, s_brk, s_cnt, s_pass, frzW_rng, frzW_ex,
 d_ev, d_nx, d_rt, d_ite, and_pure, or_pure, tru_bl, tru_int, tru_non, tru_str, tru_lst, tru_tup, pr_some, pr_gd, prB_some, prT_some, iniE, lawE, List.getElem?_cons_zero, List.getElem?_cons_succ, List.getElem?_nil, List.set_cons_zero, List.set_cons_succ, List.set_nil, List.map_cons, List.map_nil, List.nil_append, List.cons_append, List.append_nil, List.length_cons, List.length_nil, Nat.zero_le, Nat.reduceLeDiff, Nat.reduceAdd, List.replicate, ite_true, ite_false, if_true, if_false, Bool.false_eq_true, reduceIte, reduceCtorEq, ite_self, Bool.true_and, Bool.and_true, Bool.not_true, Bool.not_false, Bool.not_not, Option.map_some, Option.map_none, Pu.sizeLine_eq, cmp_ge, cmp_gt, cmp_le, cmp_lt, eq_i, eq_s, eq_b, ne_i, ne_s, ne_b, in_c, nin_c, op_add_i, op_add_s, op_add_t, op_add_l, op_sub_i, op_mul_r, op_mul_l, op_div_i, op_mod_i, bi_int, bi_intb, len_s, len_l, len_t, bi_list_t, bi_list_l, bi_tuple_t, bi_tuple_l, bi_min2, bi_max2, rev_s, rev_l, rev_t, sub_l, sub_t, sub_s, sl_l, sl_t, sl_s, at0, at1, at2, at3, lct_no, lct_yes, lctP_nm, l2T_nm, l2t1_s, ix_nm, ix_tp, lct1_s, lct2_s, lct3_s, gd_pos, isTy, List.length_map, hlen, e40, hx, q1, c2, decide_true, hk, cut_hi, cut_lo, atI_nat, hLk, e', hk1, q2, q3]
        · rw [s_tup]
          refine ⟨by simp; omega, fun z hz => ?_⟩
          rcases List.mem_append.mp hz with hz | hz
          · rcases List.mem_append.mp hz with hz | hz
            · exact (hs z (List.mem_of_mem_take hz)).mono (by omega)
            · cases List.mem_singleton.mp hz; exact s'
          · exact (hs z (List.mem_of_mem_drop hz)).mono (by omega)
        · rw [d_tup]
          refine Nat.succ_le_succ (depDs_max fun z hz => ?_)
          rcases List.mem_append.mp hz with hz | hz
          · rcases List.mem_append.mp hz with hz | hz
            · have := dep_le (List.mem_of_mem_take hz); omega
            · cases List.mem_singleton.mp hz
              have := dep_le hmem
              omega
          · have := dep_le (List.mem_of_mem_drop hz); omega
      · obtain ⟨v', e', p'⟩ := plain
        refine ⟨v', ?_, p'⟩
        by_cases c1 : 0 < L.length
        · have c2 : ¬ 0 < x % 5 := fun z => hc ⟨c1, z⟩
          have q1 : (0 : Int) < (L.length : Int) := by omega
          rw [← e']
          simp (disch := omega) only [d_ev, ss_cons, s_asgV, iniE, e_bi, es_cons, e_sub, e_var, List.getElem?_cons_succ, List.getElem?_cons_zero, rd_val, sub1_s, sub2_s, List.map_cons, List.map_nil, List.nil_append, List.cons_append, List.replicate, List.length_cons, List.length_nil, Nat.reduceAdd, Nat.reduceSub, reduceIte, Bool.false_eq_true, e_bin, bin1_s, bin2_s, es1_s, es_nil, es2_s, bi1_s, len_l, List.length_map, hlen, e40, pr_some, op_mod_i, gd_pos, sub_l, hx, bi_int, asgV_s, n_int, settle_t, List.set_cons_succ, List.set_cons_zero, seq_nx, s_if, t_ev, e_bools, b_more, b_last, e_isi, isi1_s, isTy, bolC_s, tru_bl, bolD_s, e_cmp, len_t, e_con, cmp1_s, cmp2_s, cmp_gt, prB_some, q1, decide_true, c2, decide_false, tst1_s, prT_some, if1_s, ss_nil]
        · have q1 : ¬ (0 : Int) < (L.length : Int) := by omega
          rw [← e']
          simp (disch := omega) only [d_ev, ss_cons, s_asgV, iniE, e_bi, es_cons, e_sub, e_var, List.getElem?_cons_succ, List.getElem?_cons_zero, rd_val, sub1_s, sub2_s, List.map_cons, List.map_nil, List.nil_append, List.cons_append, List.replicate, List.length_cons, List.length_nil, Nat.reduceAdd, Nat.reduceSub, reduceIte, Bool.false_eq_true, e_bin, bin1_s, bin2_s, es1_s, es_nil, es2_s, bi1_s, len_l, List.length_map, hlen, e40, pr_some, op_mod_i, gd_pos, sub_l, hx, bi_int, asgV_s, n_int, settle_t, List.set_cons_succ, List.set_cons_zero, seq_nx, s_if, t_ev, e_bools, b_more, b_last, e_isi, isi1_s, isTy, bolC_s, tru_bl, bolD_s, e_cmp, len_t, e_con, cmp1_s, cmp2_s, cmp_gt, prB_some, q1, decide_true, decide_false, tst1_s, prT_some, if1_s, ss_nil]
    | str z =>
      rw [s_str] at hs
      obtain ⟨hz, hc⟩ := hs
      obtain ⟨y, hy, hm⟩ := at_mem (α := D) (L := [D.str (z ++ [115]), .str [], .int 0, .str [115, 116, 101, 112, 115], .str [98, 105, 116, 115], .str [115, 111, 109, 101], .non]) w0 w7
      refine ⟨y, ?_, ?_⟩
      · simp (disch := omega) only [gd_T, e_con, e_glob, e_var, rd_val, rd_own, e_bin, bin1_s, bin2_s, e_neg, neg1_s, e_cmp, cmp1_s, cmp2_s, e_chn, chn1_s, chn2_s, chn3_s, e_isK, isK1_s, e_bools, b_last, b_more, bolC_s, bolD_s, e_not, not1_s, e_ite, ite1_s, ite2_s, es_nil, es_cons, es1_s, es2_s, e_tup, e_lst, tup1_s, lst1_s,
 e_sub, sub1_s, sub2_s, o_none, o_some, o1_s, e_sl, sl1_s, sl2_s, sl3_s, e_rev, rev1_s, e_call, call1_s, e_callP, callP1_s, e_bi, bi1_s, e_me, me1_s, me2_s, e_isi, isi1_s, w_rngE, rng1_s, w_exE, wlk1_s, prL_some, walk_lst, walk_tup, walk_str, e_lc, lc1_s, lc2_s, e_lcP, lcP1_s, e_lc2, lcD1_s, e_lrng, lrng1_s, lrng2_s, e_sset, sset1_s, sset2_s, wipeE_nil, wipeE_cons, t_ev, tst1_s, ss_nil, ss_cons, seq_nx, seq_rt, seq_bk, seq_ct, seq_ite,
 s_asgV, s_asgO, asgV_s, asgO_s, settle_t, settle_c, frz_nil, frz_val, frz_none, frz_pool, frz_own, n_non, n_bl, n_int, n_str, n_lst, n_tup, n_nil, n_cons, s_unp, unp1_s, s_parE, par1_s, setAll_nil, setAll_cons, s_aug, aug1_s, aug2_i, aug2_t, aug3_s, s_app, app1_s, app2_s, s_ret, ret1_s, ret1_ite, s_if, if1_s, s_for, s_forT, for1_s, turnF_s, turnT_s, s_brk, s_cnt, s_pass, frzW_rng, frzW_ex,
 d_ev, d_nx, d_rt, d_ite, and_pure, or_pure, tru_bl, tru_int, tru_non, tru_str, tru_lst, tru_tup, pr_some, pr_gd, prB_some, prT_some, iniE, lawE, List.getElem?_cons_zero, List.getElem?_cons_succ, List.getElem?_nil, List.set_cons_zero, List.set_cons_succ, List.set_nil, List.map_cons, List.map_nil, List.nil_append, List.cons_append, List.append_nil, List.length_cons, List.length_nil, Nat.zero_le, Nat.reduceLeDiff, Nat.reduceAdd, List.replicate, ite_true, ite_false, if_true, if_false, Bool.false_eq_true, reduceIte, reduceCtorEq, ite_self, Bool.true_and, Bool.and_true, Bool.not_true, Bool.not_false, Bool.not_not, Option.map_some, Option.map_none, Pu.sizeLine_eq, cmp_ge, cmp_gt, cmp_le, cmp_lt, eq_i, eq_s, eq_b, ne_i, ne_s, ne_b, in_c, nin_c, op_add_i, op_add_s, op_add_t, op_add_l, op_sub_i, op_mul_r, op_mul_l, op_div_i, op_mod_i, bi_int, bi_intb, len_s, len_l, len_t, bi_list_t, bi_list_l, bi_tuple_t, bi_tuple_l, bi_min2, bi_max2, rev_s, rev_l, rev_t, sub_l, sub_t, sub_s, sl_l, sl_t, sl_s, at0, at1, at2, at3, lct_no, lct_yes, lctP_nm, l2T_nm, l2t1_s, ix_nm, ix_tp, lct1_s, lct2_s, lct3_s, gd_pos, isTy, List.length_map, hlen, e40, hx, hy]
      · simp only [List.mem_cons, List.not_mem_nil, or_false] at hm
        rw [d_str]
        rcases hm with rfl | rfl | rfl | rfl | rfl | rfl | rfl <;> simp only [s_str, s_int, s_non, d_str, d_int, d_non, true_and]
        · refine ⟨⟨by simp; omega, fun c h => ?_⟩, by omega⟩
          rcases List.mem_append.mp h with h | h
          · exact hc c h
          · cases List.mem_singleton.mp h; omega
        all_goals first | omega | (refine ⟨⟨by simp <;> omega, by simp⟩, by omega⟩) | (refine ⟨by omega, by omega⟩) | skip
    | int i =>
      rw [s_int] at hs
      have hlog := log_small (a := i.natAbs) (by omega)
      obtain ⟨y, hy, hm⟩ := at_mem (α := D) (L := [D.int (i + 1), .int (i - 1), .int (i + 2), .bl (i == 1), .str (decL i), .int (-i), .int (i + 9)]) w0 w7
      refine ⟨y, ?_, ?_⟩
      · simp (disch := omega) only [gd_T, e_con, e_glob, e_var, rd_val, rd_own, e_bin, bin1_s, bin2_s, e_neg, neg1_s, e_cmp, cmp1_s, cmp2_s, e_chn, chn1_s, chn2_s, chn3_s, e_isK, isK1_s, e_bools, b_last, b_more, bolC_s, bolD_s, e_not, not1_s, e_ite, ite1_s, ite2_s, es_nil, es_cons, es1_s, es2_s, e_tup, e_lst, tup1_s, lst1_s,
 e_sub, sub1_s, sub2_s, o_none, o_some, o1_s, e_sl, sl1_s, sl2_s, sl3_s, e_rev, rev1_s, e_call, call1_s, e_callP, callP1_s, e_bi, bi1_s, e_me, me1_s, me2_s, e_isi, isi1_s, w_rngE, rng1_s, w_exE, wlk1_s, prL_some, walk_lst, walk_tup, walk_str, e_lc, lc1_s, lc2_s, e_lcP, lcP1_s, e_lc2, lcD1_s, e_lrng, lrng1_s, lrng2_s, e_sset, sset1_s, sset2_s, wipeE_nil, wipeE_cons, t_ev, tst1_s, ss_nil, ss_cons, seq_nx, seq_rt, seq_bk, seq_ct, seq_ite,
 s_asgV, s_asgO, asgV_s, asgO_s, settle_t, settle_c, frz_nil, frz_val, frz_none, frz_pool, frz_own, n_non, n_bl, n_int, n_str, n_lst, n_tup, n_nil, n_cons, s_unp, unp1_s, s_parE, par1_s, setAll_nil, setAll_cons, s_aug, aug1_s, aug2_i, aug2_t, aug3_s, s_app, app1_s, app2_s, s_ret, ret1_s, ret1_ite, s_if, if1_s, s_for, s_forT, for1_s, turnF_s, turnT_s, s_brk, s_cnt, s_pass, frzW_rng, frzW_ex,
 d_ev, d_nx, d_rt, d_ite, and_pure, or_pure, tru_bl, tru_int, tru_non, tru_str, tru_lst, tru_tup, pr_some, pr_gd, prB_some, prT_some, iniE, lawE, List.getElem?_cons_zero, List.getElem?_cons_succ, List.getElem?_nil, List.set_cons_zero, List.set_cons_succ, List.set_nil, List.map_cons, List.map_nil, List.nil_append, List.cons_append, List.append_nil, List.length_cons, List.length_nil, Nat.zero_le, Nat.reduceLeDiff, Nat.reduceAdd, List.replicate, ite_true, ite_false, if_true, if_false, Bool.false_eq_true, reduceIte, reduceCtorEq, ite_self, Bool.true_and, Bool.and_true, Bool.not_true, Bool.not_false, Bool.not_not, Option.map_some, Option.map_none, Pu.sizeLine_eq, cmp_ge, cmp_gt, cmp_le, cmp_lt, eq_i, eq_s, eq_b, ne_i, ne_s, ne_b, in_c, nin_c, op_add_i, op_add_s, op_add_t, op_add_l, op_sub_i, op_mul_r, op_mul_l, op_div_i, op_mod_i, bi_int, bi_intb, len_s, len_l, len_t, bi_list_t, bi_list_l, bi_tuple_t, bi_tuple_l, bi_min2, bi_max2, rev_s, rev_l, rev_t, sub_l, sub_t, sub_s, sl_l, sl_t, sl_s, at0, at1, at2, at3, lct_no, lct_yes, lctP_nm, l2T_nm, l2t1_s, ix_nm, ix_tp, lct1_s, lct2_s, lct3_s, gd_pos, isTy, List.length_map, hlen, e40, hx, bi_str_i, hlog, hy]
      · simp only [List.mem_cons, List.not_mem_nil, or_false] at hm
        rw [d_int]
        have hdl := decL_sz i
        rcases hm with rfl | rfl | rfl | rfl | rfl | rfl | rfl <;> simp only [s_str, s_int, s_bl, d_str, d_int, d_bl, true_and]
        all_goals first | omega | (exact ⟨⟨by omega, hdl.2⟩, by omega⟩)
    | non =>
      refine ⟨.int 0, ?_, by rw [s_int]; omega, by rw [d_int]; omega⟩
      simp (disch := omega) only [gd_T, e_con, e_glob, e_var, rd_val, rd_own, e_bin, bin1_s, bin2_s, e_neg, neg1_s, e_cmp, cmp1_s, cmp2_s, e_chn, chn1_s, chn2_s, chn3_s, e_isK, isK1_s, e_bools, b_last, b_more, bolC_s, bolD_s, e_not, not1_s, e_ite, ite1_s, ite2_s, es_nil, es_cons, es1_s, es2_s, e_tup, e_lst, tup1_s, lst1_s,
 e_sub, sub1_s, sub2_s, o_none, o_some, o1_s, e_sl, sl1_s, sl2_s, sl3_s, e_rev, rev1_s, e_call, call1_s, e_callP, callP1_s, e_bi, bi1_s, e_me, me1_s, me2_s, e_isi, isi1_s, w_rngE, rng1_s, w_exE, wlk1_s, prL_some, walk_lst, walk_tup, walk_str, e_lc, lc1_s, lc2_s, e_lcP, lcP1_s, e_lc2, lcD1_s, e_lrng, lrng1_s, lrng2_s, e_sset, sset1_s, sset2_s, wipeE_nil, wipeE_cons, t_ev, tst1_s, ss_nil, ss_cons, seq_nx, seq_rt, seq_bk, seq_ct, seq_ite,
 s_asgV, s_asgO, asgV_s, asgO_s, settle_t, settle_c, frz_nil, frz_val, frz_none, frz_pool, frz_own, n_non, n_bl, n_int, n_str, n_lst, n_tup, n_nil, n_cons, s_unp, unp1_s, s_parE, par1_s, setAll_nil, setAll_cons, s_aug, aug1_s, aug2_i, aug2_t, aug3_s, s_app, app1_s, app2_s, s_ret, ret1_s, ret1_ite, s_if, if1_s, s_for, s_forT, for1_s, turnF_s, turnT_s, s_brk, s_cnt, s_pass, frzW_rng, frzW_ex,
 d_ev, d_nx, d_rt, d_ite, and_pure, or_pure, tru_bl, tru_int, tru_non, tru_str, tru_lst, tru_tup, pr_some, pr_gd, prB_some, prT_some, iniE, lawE, List.getElem?_cons_zero, List.getElem?_cons_succ, List.getElem?_nil, List.set_cons_zero, List.set_cons_succ, List.set_nil, List.map_cons, List.map_nil, List.nil_append, List.cons_append, List.append_nil, List.length_cons, List.length_nil, Nat.zero_le, Nat.reduceLeDiff, Nat.reduceAdd, List.replicate, ite_true, ite_false, if_true, if_false, Bool.false_eq_true, reduceIte, reduceCtorEq, ite_self, Bool.true_and, Bool.and_true, Bool.not_true, Bool.not_false, Bool.not_not, Option.map_some, Option.map_none, Pu.sizeLine_eq, cmp_ge, cmp_gt, cmp_le, cmp_lt, eq_i, eq_s, eq_b, ne_i, ne_s, ne_b, in_c, nin_c, op_add_i, op_add_s, op_add_t, op_add_l, op_sub_i, op_mul_r, op_mul_l, op_div_i, op_mod_i, bi_int, bi_intb, len_s, len_l, len_t, bi_list_t, bi_list_l, bi_tuple_t, bi_tuple_l, bi_min2, bi_max2, rev_s, rev_l, rev_t, sub_l, sub_t, sub_s, sl_l, sl_t, sl_s, at0, at1, at2, at3, lct_no, lct_yes, lctP_nm, l2T_nm, l2t1_s, ix_nm, ix_tp, lct1_s, lct2_s, lct3_s, gd_pos, isTy, List.length_map, hlen, e40, hx]
    | bl b =>
      refine ⟨.int 0, ?_, by rw [s_int]; omega, by rw [d_int]; omega⟩
      simp (disch := omega) only [gd_T, e_con, e_glob, e_var, rd_val, rd_own, e_bin, bin1_s, bin2_s, e_neg, neg1_s, e_cmp, cmp1_s, cmp2_s, e_chn, chn1_s, chn2_s, chn3_s, e_isK, isK1_s, e_bools, b_last, b_more, bolC_s, bolD_s, e_not, not1_s, e_ite, ite1_s, ite2_s, es_nil, es_cons, es1_s, es2_s, e_tup, e_lst, tup1_s, lst1_s,
 e_sub, sub1_s, sub2_s, o_none, o_some, o1_s, e_sl, sl1_s, sl2_s, sl3_s, e_rev, rev1_s, e_call, call1_s, e_callP, callP1_s, e_bi, bi1_s, e_me, me1_s, me2_s, e_isi, isi1_s, w_rngE, rng1_s, w_exE, wlk1_s, prL_some, walk_lst, walk_tup, walk_str, e_lc, lc1_s, lc2_s, e_lcP, lcP1_s, e_lc2, lcD1_s, e_lrng, lrng1_s, lrng2_s, e_sset, sset1_s, sset2_s, wipeE_nil, wipeE_cons, t_ev, tst1_s, ss_nil, ss_cons, seq_nx, seq_rt, seq_bk, seq_ct, seq_ite,
 s_asgV, s_asgO, asgV_s, asgO_s, settle_t, settle_c, frz_nil, frz_val, frz_none, frz_pool, frz_own, n_non, n_bl, n_int, n_str, n_lst, n_tup, n_nil, n_cons, s_unp, unp1_s, s_parE, par1_s, setAll_nil, setAll_cons, s_aug, aug1_s, aug2_i, aug2_t, aug3_s, s_app, app1_s, app2_s, s_ret, ret1_s, ret1_ite, s_if, if1_s, s_for, s_forT, for1_s, turnF_s, turnT_s, s_brk, s_cnt, s_pass, frzW_rng, frzW_ex,
 d_ev, d_nx, d_rt, d_ite, and_pure, or_pure, tru_bl, tru_int, tru_non, tru_str, tru_lst, tru_tup, pr_some, pr_gd, prB_some, prT_some, iniE, lawE, List.getElem?_cons_zero, List.getElem?_cons_succ, List.getElem?_nil, List.set_cons_zero, List.set_cons_succ, List.set_nil, List.map_cons, List.map_nil, List.nil_append, List.cons_append, List.append_nil, List.length_cons, List.length_nil, Nat.zero_le, Nat.reduceLeDiff, Nat.reduceAdd, List.replicate, ite_true, ite_false, if_true, if_false, Bool.false_eq_true, reduceIte, reduceCtorEq, ite_self, Bool.true_and, Bool.and_true, Bool.not_true, Bool.not_false, Bool.not_not, Option.map_some, Option.map_none, Pu.sizeLine_eq, cmp_ge, cmp_gt, cmp_le, cmp_lt, eq_i, eq_s, eq_b, ne_i, ne_s, ne_b, in_c, nin_c, op_add_i, op_add_s, op_add_t, op_add_l, op_sub_i, op_mul_r, op_mul_l, op_div_i, op_mod_i, bi_int, bi_intb, len_s, len_l, len_t, bi_list_t, bi_list_l, bi_tuple_t, bi_tuple_l, bi_min2, bi_max2, rev_s, rev_l, rev_t, sub_l, sub_t, sub_s, sl_l, sl_t, sl_s, at0, at1, at2, at3, lct_no, lct_yes, lctP_nm, l2T_nm, l2t1_s, ix_nm, ix_tp, lct1_s, lct2_s, lct3_s, gd_pos, isTy, List.length_map, hlen, e40, hx]
    | lst L =>
      refine ⟨.int 0, ?_, by rw [s_int]; omega, by rw [d_int]; omega⟩
      simp (disch := omega) only [gd_T, e_con, e_glob, e_var, rd_val, rd_own, e_bin, bin1_s, bin2_s, e_neg, neg1_s, e_cmp, cmp1_s, cmp2_s, e_chn, chn1_s, chn2_s, chn3_s, e_isK, isK1_s, e_bools, b_last, b_more, bolC_s, bolD_s, e_not, not1_s, e_ite, ite1_s, ite2_s, es_nil, es_cons, es1_s, es2_s, e_tup, e_lst, tup1_s, lst1_s,
 e_sub, sub1_s, sub2_s, o_none, o_some, o1_s, e_sl, sl1_s, sl2_s, sl3_s, e_rev, rev1_s, e_call, call1_s, e_callP, callP1_s, e_bi, bi1_s, e_me, me1_s, me2_s, e_isi, isi1_s, w_rngE, rng1_s, w_exE, wlk1_s, prL_some, walk_lst, walk_tup, walk_str, e_lc, lc1_s, lc2_s, e_lcP, lcP1_s, e_lc2, lcD1_s, e_lrng, lrng1_s, lrng2_s, e_sset, sset1_s, sset2_s, wipeE_nil, wipeE_cons, t_ev, tst1_s, ss_nil, ss_cons, seq_nx, seq_rt, seq_bk, seq_ct, seq_ite,
 s_asgV, s_asgO, asgV_s, asgO_s, settle_t, settle_c, frz_nil, frz_val, frz_none, frz_pool, frz_own, n_non, n_bl, n_int, n_str, n_lst, n_tup, n_nil, n_cons, s_unp, unp1_s, s_parE, par1_s, setAll_nil, setAll_cons, s_aug, aug1_s, aug2_i, aug2_t, aug3_s, s_app, app1_s, app2_s, s_ret, ret1_s, ret1_ite, s_if, if1_s, s_for, s_forT, for1_s, turnF_s, turnT_s, s_brk, s_cnt, s_pass, frzW_rng, frzW_ex,
 d_ev, d_nx, d_rt, d_ite, and_pure, or_pure, tru_bl, tru_int, tru_non, tru_str, tru_lst, tru_tup, pr_some, pr_gd, prB_some, prT_some, iniE, lawE, List.getElem?_cons_zero, List.getElem?_cons_succ, List.getElem?_nil, List.set_cons_zero, List.set_cons_succ, List.set_nil, List.map_cons, List.map_nil, List.nil_append, List.cons_append, List.append_nil, List.length_cons, List.length_nil, Nat.zero_le, Nat.reduceLeDiff, Nat.reduceAdd, List.replicate, ite_true, ite_false, if_true, if_false, Bool.false_eq_true, reduceIte, reduceCtorEq, ite_self, Bool.true_and, Bool.and_true, Bool.not_true, Bool.not_false, Bool.not_not, Option.map_some, Option.map_none, Pu.sizeLine_eq, cmp_ge, cmp_gt, cmp_le, cmp_lt, eq_i, eq_s, eq_b, ne_i, ne_s, ne_b, in_c, nin_c, op_add_i, op_add_s, op_add_t, op_add_l, op_sub_i, op_mul_r, op_mul_l, op_div_i, op_mod_i, bi_int, bi_intb, len_s, len_l, len_t, bi_list_t, bi_list_l, bi_tuple_t, bi_tuple_l, bi_min2, bi_max2, rev_s, rev_l, rev_t, sub_l, sub_t, sub_s, sl_l, sl_t, sl_s, at0, at1, at2, at3, lct_no, lct_yes, lctP_nm, l2T_nm, l2t1_s, ix_nm, ix_tp, lct1_s, lct2_s, lct3_s, gd_pos, isTy, List.length_map, hlen, e40, hx]
end Pu
set_option Elab.async false
set_option linter.all false
set_option maxRecDepth 100000
set_option maxHeartbeats 1000000
namespace Pu
open PySem PySem.Spec PyProof.Rows L2

/-! ### the program's small helpers -/
def b_is_whole : Sts := (.cons (.ret (.bools true (.cons (.isi (.var 0) .int) (.cons (.notE (.isi (.var 0) .bool)) .nil)))) .nil)
def F_is_whole : Fnc := fun ds pl => evD fuel b_is_whole 1 false ds pl
theorem is_whole_ev {d : D} {pl : Pool} : F_is_whole [d] pl = some (.bl (isI d), pl) := is_int_ev
def b_is_from : Sts := (.cons (.ret (.bools true (.cons (.call "is_whole" 1 F_is_whole (.cons (.var 0) .nil)) (.cons (.chn .LtE .LtE (.var 1) (.var 0) (.var 2)) .nil)))) .nil)
def F_is_from : Fnc := fun ds pl => evD fuel b_is_from 3 false ds pl
def fromB (v : D) (lo hi : Int) : Bool := match v with
  | .int i => decide (lo ≤ i) && decide (i ≤ hi)
  | _ => false
theorem is_from_ev {v : D} {lo hi : Int} {pl : Pool} : F_is_from [v, .int lo, .int hi] pl = some (.bl (fromB v lo hi), pl) := by
  unfold F_is_from b_is_from
  cases v with
  | int i =>
    simp only [gd_T, e_con, e_glob, e_var, rd_val, rd_own, e_bin, bin1_s, bin2_s, e_neg, neg1_s, e_cmp, cmp1_s, cmp2_s, e_chn, chn1_s, chn2_s, chn3_s, e_isK, isK1_s, e_bools, b_last, b_more, bolC_s, bolD_s, e_not, not1_s, e_ite, ite1_s, ite2_s, es_nil, es_cons, es1_s, es2_s, e_tup, e_lst, tup1_s, lst1_s,
 e_sub, sub1_s, sub2_s, o_none, o_some, o1_s, e_sl, sl1_s, sl2_s, sl3_s, e_rev, rev1_s, e_call, call1_s, e_callP, callP1_s, e_bi, bi1_s, e_me, me1_s, me2_s, e_isi, isi1_s, w_rngE, rng1_s, w_exE, wlk1_s, prL_some, walk_lst, walk_tup, walk_str, e_lc, lc1_s, lc2_s, e_lcP, lcP1_s, e_lc2, lcD1_s, e_lrng, lrng1_s, lrng2_s, e_sset, sset1_s, sset2_s, wipeE_nil, wipeE_cons, t_ev, tst1_s, ss_nil, ss_cons, seq_nx, seq_rt, seq_bk, seq_ct, seq_ite,
 s_asgV, s_asgO, asgV_s, asgO_s, settle_t, settle_c, frz_nil, frz_val, frz_none, frz_pool, frz_own, n_non, n_bl, n_int, n_str, n_lst, n_tup, n_nil, n_cons, s_unp, unp1_s, s_parE, par1_s, setAll_nil, setAll_cons, s_aug, aug1_s, aug2_i, aug2_t, aug3_s, s_app, app1_s, app2_s, s_ret, ret1_s, ret1_ite, s_if, if1_s, s_for, s_forT, for1_s, turnF_s, turnT_s, s_brk, s_cnt, s_pass, frzW_rng, frzW_ex,
 d_ev, d_nx, d_rt, d_ite, and_pure, or_pure, tru_bl, tru_int, tru_non, tru_str, tru_lst, tru_tup, pr_some, pr_gd, prB_some, prT_some, iniE, lawE, List.getElem?_cons_zero, List.getElem?_cons_succ, List.getElem?_nil, List.set_cons_zero, List.set_cons_succ, List.set_nil, List.map_cons, List.map_nil, List.nil_append, List.cons_append, List.append_nil, List.length_cons, List.length_nil, Nat.zero_le, Nat.reduceLeDiff, Nat.reduceAdd, List.replicate, ite_true, ite_false, if_true, if_false, Bool.false_eq_true, reduceIte, reduceCtorEq, ite_self, Bool.true_and, Bool.and_true, Bool.not_true, Bool.not_false, Bool.not_not, Option.map_some, Option.map_none, Pu.sizeLine_eq, cmp_ge, cmp_gt, cmp_le, cmp_lt, eq_i, eq_s, eq_b, ne_i, ne_s, ne_b, in_c, nin_c, op_add_i, op_add_s, op_add_t, op_add_l, op_sub_i, op_mul_r, op_mul_l, op_div_i, op_mod_i, bi_int, bi_intb, len_s, len_l, len_t, bi_list_t, bi_list_l, bi_tuple_t, bi_tuple_l, bi_min2, bi_max2, rev_s, rev_l, rev_t, sub_l, sub_t, sub_s, sl_l, sl_t, sl_s, at0, at1, at2, at3, lct_no, lct_yes, lctP_nm, l2T_nm, l2t1_s, ix_nm, ix_tp, lct1_s, lct2_s, lct3_s, gd_pos, is_whole_ev, isI, fromB]
    by_cases h : i < lo
    · simp only [gd_T, e_con, e_glob, e_var, rd_val, rd_own, e_bin, bin1_s, bin2_s, e_neg, neg1_s, e_cmp, cmp1_s, cmp2_s, e_chn, chn1_s, chn2_s, chn3_s, e_isK, isK1_s, e_bools, b_last, b_more, bolC_s, bolD_s, e_not, not1_s, e_ite, ite1_s, ite2_s, es_nil, es_cons, es1_s, es2_s, e_tup, e_lst, tup1_s, lst1_s,
 e_sub, sub1_s, sub2_s, o_none, o_some, o1_s, e_sl, sl1_s, sl2_s, sl3_s, e_rev, rev1_s, e_call, call1_s, e_callP, callP1_s, e_bi, bi1_s, e_me, me1_s, me2_s, e_isi, isi1_s, w_rngE, rng1_s, w_exE, wlk1_s, prL_some, walk_lst, walk_tup, walk_str, e_lc, lc1_s, lc2_s, e_lcP, lcP1_s, e_lc2, lcD1_s, e_lrng, lrng1_s, lrng2_s, e_sset, sset1_s, sset2_s, wipeE_nil, wipeE_cons, t_ev, tst1_s, ss_nil, ss_cons, seq_nx, seq_rt, seq_bk, seq_ct, seq_ite,
 s_asgV, s_asgO, asgV_s, asgO_s, settle_t, settle_c, frz_nil, frz_val, frz_none, frz_pool, frz_own, n_non, n_bl, n_int, n_str, n_lst, n_tup, n_nil, n_cons, s_unp, unp1_s, s_parE, par1_s, setAll_nil, setAll_cons, s_aug, aug1_s, aug2_i, aug2_t, aug3_s, s_app, app1_s, app2_s, s_ret, ret1_s, ret1_ite, s_if, if1_s, s_for, s_forT, for1_s, turnF_s, turnT_s, s_brk, s_cnt, s_pass, frzW_rng, frzW_ex,
 d_ev, d_nx, d_rt, d_ite, and_pure, or_pure, tru_bl, tru_int, tru_non, tru_str, tru_lst, tru_tup, pr_some, pr_gd, prB_some, prT_some, iniE, lawE, List.getElem?_cons_zero, List.getElem?_cons_succ, List.getElem?_nil, List.set_cons_zero, List.set_cons_succ, List.set_nil, List.map_cons, List.map_nil, List.nil_append, List.cons_append, List.append_nil, List.length_cons, List.length_nil, Nat.zero_le, Nat.reduceLeDiff, Nat.reduceAdd, List.replicate, ite_true, ite_false, if_true, if_false, Bool.false_eq_true, reduceIte, reduceCtorEq, ite_self, Bool.true_and, Bool.and_true, Bool.not_true, Bool.not_false, Bool.not_not, Option.map_some, Option.map_none, Pu.sizeLine_eq, cmp_ge, cmp_gt, cmp_le, cmp_lt, eq_i, eq_s, eq_b, ne_i, ne_s, ne_b, in_c, nin_c, op_add_i, op_add_s, op_add_t, op_add_l, op_sub_i, op_mul_r, op_mul_l, op_div_i, op_mod_i, bi_int, bi_intb, len_s, len_l, len_t, bi_list_t, bi_list_l, bi_tuple_t, bi_tuple_l, bi_min2, bi_max2, rev_s, rev_l, rev_t, sub_l, sub_t, sub_s, sl_l, sl_t, sl_s, at0, at1, at2, at3, lct_no, lct_yes, lctP_nm, l2T_nm, l2t1_s, ix_nm, ix_tp, lct1_s, lct2_s, lct3_s, gd_pos, h, show ¬ lo ≤ i by omega, decide_true, decide_false, Bool.false_and]
    · simp only [gd_T, e_con, e_glob, e_var, rd_val, rd_own, e_bin, bin1_s, bin2_s, e_neg, neg1_s, e_cmp, cmp1_s, cmp2_s, e_chn, chn1_s, chn2_s, chn3_s, e_isK, isK1_s, e_bools, b_last, b_more, bolC_s, bolD_s, e_not, not1_s, e_ite, ite1_s, ite2_s, es_nil, es_cons, es1_s, es2_s, e_tup, e_lst, tup1_s, lst1_s,
 e_sub, sub1_s, sub2_s, o_none, o_some, o1_s, e_sl, sl1_s, sl2_s, sl3_s, e_rev, rev1_s, e_call, call1_s, e_callP, callP1_s, e_bi, bi1_s, e_me, me1_s, me2_s, e_isi, isi1_s, w_rngE, rng1_s, w_exE, wlk1_s, prL_some, walk_lst, walk_tup, walk_str, e_lc, lc1_s, lc2_s, e_lcP, lcP1_s, e_lc2, lcD1_s, e_lrng, lrng1_s, lrng2_s, e_sset, sset1_s, sset2_s, wipeE_nil, wipeE_cons, t_ev, tst1_s, ss_nil, ss_cons, seq_nx, seq_rt, seq_bk, seq_ct, seq_ite,
 s_asgV, s_asgO, asgV_s, asgO_s, settle_t, settle_c, frz_nil, frz_val, frz_none, frz_pool, frz_own, n_non, n_bl, n_int, n_str, n_lst, n_tup, n_nil, n_cons, s_unp, unp1_s, s_parE, par1_s, setAll_nil, setAll_cons, s_aug, aug1_s, aug2_i, aug2_t, aug3_s, s_app, app1_s, app2_s, s_ret, ret1_s, ret1_ite, s_if, if1_s, s_for, s_forT, for1_s, turnF_s, turnT_s, s_brk, s_cnt, s_pass, frzW_rng, frzW_ex,
 d_ev, d_nx, d_rt, d_ite, and_pure, or_pure, tru_bl, tru_int, tru_non, tru_str, tru_lst, tru_tup, pr_some, pr_gd, prB_some, prT_some, iniE, lawE, List.getElem?_cons_zero, List.getElem?_cons_succ, List.getElem?_nil, List.set_cons_zero, List.set_cons_succ, List.set_nil, List.map_cons, List.map_nil, List.nil_append, List.cons_append, List.append_nil, List.length_cons, List.length_nil, Nat.zero_le, Nat.reduceLeDiff, Nat.reduceAdd, List.replicate, ite_true, ite_false, if_true, if_false, Bool.false_eq_true, reduceIte, reduceCtorEq, ite_self, Bool.true_and, Bool.and_true, Bool.not_true, Bool.not_false, Bool.not_not, Option.map_some, Option.map_none, Pu.sizeLine_eq, cmp_ge, cmp_gt, cmp_le, cmp_lt, eq_i, eq_s, eq_b, ne_i, ne_s, ne_b, in_c, nin_c, op_add_i, op_add_s, op_add_t, op_add_l, op_sub_i, op_mul_r, op_mul_l, op_div_i, op_mod_i, bi_int, bi_intb, len_s, len_l, len_t, bi_list_t, bi_list_l, bi_tuple_t, bi_tuple_l, bi_min2, bi_max2, rev_s, rev_l, rev_t, sub_l, sub_t, sub_s, sl_l, sl_t, sl_s, at0, at1, at2, at3, lct_no, lct_yes, lctP_nm, l2T_nm, l2t1_s, ix_nm, ix_tp, lct1_s, lct2_s, lct3_s, gd_pos, h, show lo ≤ i by omega, decide_true, decide_false]
      congr 3
      by_cases h2 : hi < i
      · rw [decide_eq_true h2, decide_eq_false (by omega)]; rfl
      · rw [decide_eq_false h2, decide_eq_true (by omega)]; rfl
  | _ => simp only [gd_T, e_con, e_glob, e_var, rd_val, rd_own, e_bin, bin1_s, bin2_s, e_neg, neg1_s, e_cmp, cmp1_s, cmp2_s, e_chn, chn1_s, chn2_s, chn3_s, e_isK, isK1_s, e_bools, b_last, b_more, bolC_s, bolD_s, e_not, not1_s, e_ite, ite1_s, ite2_s, es_nil, es_cons, es1_s, es2_s, e_tup, e_lst, tup1_s, lst1_s,
 e_sub, sub1_s, sub2_s, o_none, o_some, o1_s, e_sl, sl1_s, sl2_s, sl3_s, e_rev, rev1_s, e_call, call1_s, e_callP, callP1_s, e_bi, bi1_s, e_me, me1_s, me2_s, e_isi, isi1_s, w_rngE, rng1_s, w_exE, wlk1_s, prL_some, walk_lst, walk_tup, walk_str, e_lc, lc1_s, lc2_s, e_lcP, lcP1_s, e_lc2, lcD1_s, e_lrng, lrng1_s, lrng2_s, e_sset, sset1_s, sset2_s, wipeE_nil, wipeE_cons, t_ev, tst1_s, ss_nil, ss_cons, seq_nx, seq_rt, seq_bk, seq_ct, seq_ite,
 s_asgV, s_asgO, asgV_s, asgO_s, settle_t, settle_c, frz_nil, frz_val, frz_none, frz_pool, frz_own, n_non, n_bl, n_int, n_str, n_lst, n_tup, n_nil, n_cons, s_unp, unp1_s, s_parE, par1_s, setAll_nil, setAll_cons, s_aug, aug1_s, aug2_i, aug2_t, aug3_s, s_app, app1_s, app2_s, s_ret, ret1_s, ret1_ite, s_if, if1_s, s_for, s_forT, for1_s, turnF_s, turnT_s, s_brk, s_cnt, s_pass, frzW_rng, frzW_ex,
 d_ev, d_nx, d_rt, d_ite, and_pure, or_pure, tru_bl, tru_int, tru_non, tru_str, tru_lst, tru_tup, pr_some, pr_gd, prB_some, prT_some, iniE, lawE, List.getElem?_cons_zero, List.getElem?_cons_succ, List.getElem?_nil, List.set_cons_zero, List.set_cons_succ, List.set_nil, List.map_cons, List.map_nil, List.nil_append, List.cons_append, List.append_nil, List.length_cons, List.length_nil, Nat.zero_le, Nat.reduceLeDiff, Nat.reduceAdd, List.replicate, ite_true, ite_false, if_true, if_false, Bool.false_eq_true, reduceIte, reduceCtorEq, ite_self, Bool.true_and, Bool.and_true, Bool.not_true, Bool.not_false, Bool.not_not, Option.map_some, Option.map_none, Pu.sizeLine_eq, cmp_ge, cmp_gt, cmp_le, cmp_lt, eq_i, eq_s, eq_b, ne_i, ne_s, ne_b, in_c, nin_c, op_add_i, op_add_s, op_add_t, op_add_l, op_sub_i, op_mul_r, op_mul_l, op_div_i, op_mod_i, bi_int, bi_intb, len_s, len_l, len_t, bi_list_t, bi_list_l, bi_tuple_t, bi_tuple_l, bi_min2, bi_max2, rev_s, rev_l, rev_t, sub_l, sub_t, sub_s, sl_l, sl_t, sl_s, at0, at1, at2, at3, lct_no, lct_yes, lctP_nm, l2T_nm, l2t1_s, ix_nm, ix_tp, lct1_s, lct2_s, lct3_s, gd_pos, is_whole_ev, isI, fromB]
def b_is_named : Sts := (.cons (.ret (.bools true (.cons (.isi (.var 0) .tuple) (.cons (.cmp .Eq (.bi .len (.cons (.var 0) .nil)) (.var 2)) (.cons (.isi (.sub (.var 0) (.con (.int 0))) .str) (.cons (.cmp .Eq (.sub (.var 0) (.con (.int 0))) (.var 1)) .nil)))))) .nil)
def F_is_named : Fnc := fun ds pl => evD fuel b_is_named 3 false ds pl
theorem is_named_ev {v : D} {w : List Nat} {n : Nat} (hn : 0 < n) {pl : Pool} : F_is_named [v, .str w, .int (n : Nat)] pl = some (.bl (named v w n), pl) := named_ev hn
def b_is_word : Sts := (.cons (.ret (.bools true (.cons (.isi (.var 0) .str) (.cons (.cmp .LtE (.bi .len (.cons (.var 0) .nil)) (.glob "MOST" (.int 60))) (.cons (.bi .all (.cons (.lc 1 (.ex (.var 0)) .no (.cmp .In (.var 1) (.glob "LETTERS" (.str [97, 98, 99, 100])))) .nil)) .nil))))) .nil)
def F_is_word : Fnc := fun ds pl => evD fuel b_is_word 2 false ds pl
theorem all_bl : ∀ {l : List Bool}, bolsOf (l.map D.bl) = some l
  | [] => rfl
  | x :: l => by rw [List.map_cons, bolsOf, all_bl]; rfl
theorem bi_all {l : List Bool} : opBi .all [.lst (l.map D.bl)] = some (.bl (l.all id)) := by
  show (bolsOf (l.map D.bl)).map _ = _
  rw [all_bl]
  rfl
theorem bi_any {l : List Bool} : opBi .any [.lst (l.map D.bl)] = some (.bl (l.any id)) := by
  show (bolsOf (l.map D.bl)).map _ = _
  rw [all_bl]
  rfl
theorem is_word_ev {v : D} (hv : ∀ z, v = .str z → z.length ≤ 16777216) {pl : Pool} : F_is_word [v] pl = some (.bl (wordB v), pl) := by
  unfold F_is_word b_is_word
  cases v with
  | str z =>
    have hz := hv z rfl
    have e := lc_map (turn := lcTurn 1 .no (.cmp .In (.var 1) (.glob "LETTERS" (.str [97, 98, 99, 100]))) [.val (.str z), .none]) (pl := pl) (ds := z.map fun c => .str [c])
      (g := fun x => match x with | .str [c] => .bl (decide (c ∈ abcd)) | _ => .non) (fun x hx => by
        obtain ⟨c, hc, rfl⟩ := List.mem_map.mp hx
        simp only [gd_T, e_con, e_glob, e_var, rd_val, rd_own, e_bin, bin1_s, bin2_s, e_neg, neg1_s, e_cmp, cmp1_s, cmp2_s, e_chn, chn1_s, chn2_s, chn3_s, e_isK, isK1_s, e_bools, b_last, b_more, bolC_s, bolD_s, e_not, not1_s, e_ite, ite1_s, ite2_s, es_nil, es_cons, es1_s, es2_s, e_tup, e_lst, tup1_s, lst1_s,
 e_sub, sub1_s, sub2_s, o_none, o_some, o1_s, e_sl, sl1_s, sl2_s, sl3_s, e_rev, rev1_s, e_call, call1_s, e_callP, callP1_s, e_bi, bi1_s, e_me, me1_s, me2_s, e_isi, isi1_s, w_rngE, rng1_s, w_exE, wlk1_s, prL_some, walk_lst, walk_tup, walk_str, e_lc, lc1_s, lc2_s, e_lcP, lcP1_s, e_lc2, lcD1_s, e_lrng, lrng1_s, lrng2_s, e_sset, sset1_s, sset2_s, wipeE_nil, wipeE_cons, t_ev, tst1_s, ss_nil, ss_cons, seq_nx, seq_rt, seq_bk, seq_ct, seq_ite,
 s_asgV, s_asgO, asgV_s, asgO_s, settle_t, settle_c, frz_nil, frz_val, frz_none, frz_pool, frz_own, n_non, n_bl, n_int, n_str, n_lst, n_tup, n_nil, n_cons, s_unp, unp1_s, s_parE, par1_s, setAll_nil, setAll_cons, s_aug, aug1_s, aug2_i, aug2_t, aug3_s, s_app, app1_s, app2_s, s_ret, ret1_s, ret1_ite, s_if, if1_s, s_for, s_forT, for1_s, turnF_s, turnT_s, s_brk, s_cnt, s_pass, frzW_rng, frzW_ex,
 d_ev, d_nx, d_rt, d_ite, and_pure, or_pure, tru_bl, tru_int, tru_non, tru_str, tru_lst, tru_tup, pr_some, pr_gd, prB_some, prT_some, iniE, lawE, List.getElem?_cons_zero, List.getElem?_cons_succ, List.getElem?_nil, List.set_cons_zero, List.set_cons_succ, List.set_nil, List.map_cons, List.map_nil, List.nil_append, List.cons_append, List.append_nil, List.length_cons, List.length_nil, Nat.zero_le, Nat.reduceLeDiff, Nat.reduceAdd, List.replicate, ite_true, ite_false, if_true, if_false, Bool.false_eq_true, reduceIte, reduceCtorEq, ite_self, Bool.true_and, Bool.and_true, Bool.not_true, Bool.not_false, Bool.not_not, Option.map_some, Option.map_none, Pu.sizeLine_eq, cmp_ge, cmp_gt, cmp_le, cmp_lt, eq_i, eq_s, eq_b, ne_i, ne_s, ne_b, in_c, nin_c, op_add_i, op_add_s, op_add_t, op_add_l, op_sub_i, op_mul_r, op_mul_l, op_div_i, op_mod_i, bi_int, bi_intb, len_s, len_l, len_t, bi_list_t, bi_list_l, bi_tuple_t, bi_tuple_l, bi_min2, bi_max2, rev_s, rev_l, rev_t, sub_l, sub_t, sub_s, sl_l, sl_t, sl_s, at0, at1, at2, at3, lct_no, lct_yes, lctP_nm, l2T_nm, l2t1_s, ix_nm, ix_tp, lct1_s, lct2_s, lct3_s, gd_pos]
        rfl)
    have hl : ((z.map fun c => D.str [c]).map fun x => match x with | .str [c] => D.bl (decide (c ∈ abcd)) | _ => .non) = (z.map fun c => decide (c ∈ abcd)).map D.bl := by
      rw [List.map_map, List.map_map]; rfl
    rw [hl] at e
    simp (disch := omega) only [gd_T, e_con, e_glob, e_var, rd_val, rd_own, e_bin, bin1_s, bin2_s, e_neg, neg1_s, e_cmp, cmp1_s, cmp2_s, e_chn, chn1_s, chn2_s, chn3_s, e_isK, isK1_s, e_bools, b_last, b_more, bolC_s, bolD_s, e_not, not1_s, e_ite, ite1_s, ite2_s, es_nil, es_cons, es1_s, es2_s, e_tup, e_lst, tup1_s, lst1_s,
 e_sub, sub1_s, sub2_s, o_none, o_some, o1_s, e_sl, sl1_s, sl2_s, sl3_s, e_rev, rev1_s, e_call, call1_s, e_callP, callP1_s, e_bi, bi1_s, e_me, me1_s, me2_s, e_isi, isi1_s, w_rngE, rng1_s, w_exE, wlk1_s, prL_some, walk_lst, walk_tup, walk_str, e_lc, lc1_s, lc2_s, e_lcP, lcP1_s, e_lc2, lcD1_s, e_lrng, lrng1_s, lrng2_s, e_sset, sset1_s, sset2_s, wipeE_nil, wipeE_cons, t_ev, tst1_s, ss_nil, ss_cons, seq_nx, seq_rt, seq_bk, seq_ct, seq_ite,
 s_asgV, s_asgO, asgV_s, asgO_s, settle_t, settle_c, frz_nil, frz_val, frz_none, frz_pool, frz_own, n_non, n_bl, n_int, n_str, n_lst, n_tup, n_nil, n_cons, s_unp, unp1_s, s_parE, par1_s, setAll_nil, setAll_cons, s_aug, aug1_s, aug2_i, aug2_t, aug3_s, s_app, app1_s, app2_s, s_ret, ret1_s, ret1_ite, s_if, if1_s, s_for, s_forT, for1_s, turnF_s, turnT_s, s_brk, s_cnt, s_pass, frzW_rng, frzW_ex,
 d_ev, d_nx, d_rt, d_ite, and_pure, or_pure, tru_bl, tru_int, tru_non, tru_str, tru_lst, tru_tup, pr_some, pr_gd, prB_some, prT_some, iniE, lawE, List.getElem?_cons_zero, List.getElem?_cons_succ, List.getElem?_nil, List.set_cons_zero, List.set_cons_succ, List.set_nil, List.map_cons, List.map_nil, List.nil_append, List.cons_append, List.append_nil, List.length_cons, List.length_nil, Nat.zero_le, Nat.reduceLeDiff, Nat.reduceAdd, List.replicate, ite_true, ite_false, if_true, if_false, Bool.false_eq_true, reduceIte, reduceCtorEq, ite_self, Bool.true_and, Bool.and_true, Bool.not_true, Bool.not_false, Bool.not_not, Option.map_some, Option.map_none, Pu.sizeLine_eq, cmp_ge, cmp_gt, cmp_le, cmp_lt, eq_i, eq_s, eq_b, ne_i, ne_s, ne_b, in_c, nin_c, op_add_i, op_add_s, op_add_t, op_add_l, op_sub_i, op_mul_r, op_mul_l, op_div_i, op_mod_i, bi_int, bi_intb, len_s, len_l, len_t, bi_list_t, bi_list_l, bi_tuple_t, bi_tuple_l, bi_min2, bi_max2, rev_s, rev_l, rev_t, sub_l, sub_t, sub_s, sl_l, sl_t, sl_s, at0, at1, at2, at3, lct_no, lct_yes, lctP_nm, l2T_nm, l2t1_s, ix_nm, ix_tp, lct1_s, lct2_s, lct3_s, gd_pos, isTy, e, bi_all, List.length_map, wordB, List.all_map, Function.id_comp]
    congr 3
    by_cases h : z.length ≤ 60
    · rw [decide_eq_false (by omega), decide_eq_true h]; rfl
    · rw [decide_eq_true (by omega), decide_eq_false h]; rfl
  | _ => simp only [gd_T, e_con, e_glob, e_var, rd_val, rd_own, e_bin, bin1_s, bin2_s, e_neg, neg1_s, e_cmp, cmp1_s, cmp2_s, e_chn, chn1_s, chn2_s, chn3_s, e_isK, isK1_s, e_bools, b_last, b_more, bolC_s, bolD_s, e_not, not1_s, e_ite, ite1_s, ite2_s, es_nil, es_cons, es1_s, es2_s, e_tup, e_lst, tup1_s, lst1_s,
 e_sub, sub1_s, sub2_s, o_none, o_some, o1_s, e_sl, sl1_s, sl2_s, sl3_s, e_rev, rev1_s, e_call, call1_s, e_callP, callP1_s, e_bi, bi1_s, e_me, me1_s, me2_s, e_isi, isi1_s, w_rngE, rng1_s, w_exE, wlk1_s, prL_some, walk_lst, walk_tup, walk_str, e_lc, lc1_s, lc2_s, e_lcP, lcP1_s, e_lc2, lcD1_s, e_lrng, lrng1_s, lrng2_s, e_sset, sset1_s, sset2_s, wipeE_nil, wipeE_cons, t_ev, tst1_s, ss_nil, ss_cons, seq_nx, seq_rt, seq_bk, seq_ct, seq_ite,
 s_asgV, s_asgO, asgV_s, asgO_s, settle_t, settle_c, frz_nil, frz_val, frz_none, frz_pool, frz_own, n_non, n_bl, n_int, n_str, n_lst, n_tup, n_nil, n_cons, s_unp, unp1_s, s_parE, par1_s, setAll_nil, setAll_cons, s_aug, aug1_s, aug2_i, aug2_t, aug3_s, s_app, app1_s, app2_s, s_ret, ret1_s, ret1_ite, s_if, if1_s, s_for, s_forT, for1_s, turnF_s, turnT_s, s_brk, s_cnt, s_pass, frzW_rng, frzW_ex,
 d_ev, d_nx, d_rt, d_ite, and_pure, or_pure, tru_bl, tru_int, tru_non, tru_str, tru_lst, tru_tup, pr_some, pr_gd, prB_some, prT_some, iniE, lawE, List.getElem?_cons_zero, List.getElem?_cons_succ, List.getElem?_nil, List.set_cons_zero, List.set_cons_succ, List.set_nil, List.map_cons, List.map_nil, List.nil_append, List.cons_append, List.append_nil, List.length_cons, List.length_nil, Nat.zero_le, Nat.reduceLeDiff, Nat.reduceAdd, List.replicate, ite_true, ite_false, if_true, if_false, Bool.false_eq_true, reduceIte, reduceCtorEq, ite_self, Bool.true_and, Bool.and_true, Bool.not_true, Bool.not_false, Bool.not_not, Option.map_some, Option.map_none, Pu.sizeLine_eq, cmp_ge, cmp_gt, cmp_le, cmp_lt, eq_i, eq_s, eq_b, ne_i, ne_s, ne_b, in_c, nin_c, op_add_i, op_add_s, op_add_t, op_add_l, op_sub_i, op_mul_r, op_mul_l, op_div_i, op_mod_i, bi_int, bi_intb, len_s, len_l, len_t, bi_list_t, bi_list_l, bi_tuple_t, bi_tuple_l, bi_min2, bi_max2, rev_s, rev_l, rev_t, sub_l, sub_t, sub_s, sl_l, sl_t, sl_s, at0, at1, at2, at3, lct_no, lct_yes, lctP_nm, l2T_nm, l2t1_s, ix_nm, ix_tp, lct1_s, lct2_s, lct3_s, gd_pos, isTy, wordB]
def b__law_from : Sts := (.cons (.ret (.bools true (.cons (.call "_law_is_int" 1 F__law_is_int (.cons (.var 0) .nil)) (.cons (.chn .LtE .LtE (.var 1) (.var 0) (.var 2)) .nil)))) .nil)
def F__law_from : Fnc := fun ds pl => evD fuel b__law_from 3 false ds pl
theorem law_from_ev {v : D} {lo hi : Int} {pl : Pool} : F__law_from [v, .int lo, .int hi] pl = some (.bl (fromB v lo hi), pl) := by
  unfold F__law_from b__law_from
  cases v with
  | int i =>
    simp only [gd_T, e_con, e_glob, e_var, rd_val, rd_own, e_bin, bin1_s, bin2_s, e_neg, neg1_s, e_cmp, cmp1_s, cmp2_s, e_chn, chn1_s, chn2_s, chn3_s, e_isK, isK1_s, e_bools, b_last, b_more, bolC_s, bolD_s, e_not, not1_s, e_ite, ite1_s, ite2_s, es_nil, es_cons, es1_s, es2_s, e_tup, e_lst, tup1_s, lst1_s,
 e_sub, sub1_s, sub2_s, o_none, o_some, o1_s, e_sl, sl1_s, sl2_s, sl3_s, e_rev, rev1_s, e_call, call1_s, e_callP, callP1_s, e_bi, bi1_s, e_me, me1_s, me2_s, e_isi, isi1_s, w_rngE, rng1_s, w_exE, wlk1_s, prL_some, walk_lst, walk_tup, walk_str, e_lc, lc1_s, lc2_s, e_lcP, lcP1_s, e_lc2, lcD1_s, e_lrng, lrng1_s, lrng2_s, e_sset, sset1_s, sset2_s, wipeE_nil, wipeE_cons, t_ev, tst1_s, ss_nil, ss_cons, seq_nx, seq_rt, seq_bk, seq_ct, seq_ite,
 s_asgV, s_asgO, asgV_s, asgO_s, settle_t, settle_c, frz_nil, frz_val, frz_none, frz_pool, frz_own, n_non, n_bl, n_int, n_str, n_lst, n_tup, n_nil, n_cons, s_unp, unp1_s, s_parE, par1_s, setAll_nil, setAll_cons, s_aug, aug1_s, aug2_i, aug2_t, aug3_s, s_app, app1_s, app2_s, s_ret, ret1_s, ret1_ite, s_if, if1_s, s_for, s_forT, for1_s, turnF_s, turnT_s, s_brk, s_cnt, s_pass, frzW_rng, frzW_ex,
 d_ev, d_nx, d_rt, d_ite, and_pure, or_pure, tru_bl, tru_int, tru_non, tru_str, tru_lst, tru_tup, pr_some, pr_gd, prB_some, prT_some, iniE, lawE, List.getElem?_cons_zero, List.getElem?_cons_succ, List.getElem?_nil, List.set_cons_zero, List.set_cons_succ, List.set_nil, List.map_cons, List.map_nil, List.nil_append, List.cons_append, List.append_nil, List.length_cons, List.length_nil, Nat.zero_le, Nat.reduceLeDiff, Nat.reduceAdd, List.replicate, ite_true, ite_false, if_true, if_false, Bool.false_eq_true, reduceIte, reduceCtorEq, ite_self, Bool.true_and, Bool.and_true, Bool.not_true, Bool.not_false, Bool.not_not, Option.map_some, Option.map_none, Pu.sizeLine_eq, cmp_ge, cmp_gt, cmp_le, cmp_lt, eq_i, eq_s, eq_b, ne_i, ne_s, ne_b, in_c, nin_c, op_add_i, op_add_s, op_add_t, op_add_l, op_sub_i, op_mul_r, op_mul_l, op_div_i, op_mod_i, bi_int, bi_intb, len_s, len_l, len_t, bi_list_t, bi_list_l, bi_tuple_t, bi_tuple_l, bi_min2, bi_max2, rev_s, rev_l, rev_t, sub_l, sub_t, sub_s, sl_l, sl_t, sl_s, at0, at1, at2, at3, lct_no, lct_yes, lctP_nm, l2T_nm, l2t1_s, ix_nm, ix_tp, lct1_s, lct2_s, lct3_s, gd_pos, is_int_ev, isI, fromB]
    by_cases h : i < lo
    · simp only [gd_T, e_con, e_glob, e_var, rd_val, rd_own, e_bin, bin1_s, bin2_s, e_neg, neg1_s, e_cmp, cmp1_s, cmp2_s, e_chn, chn1_s, chn2_s, chn3_s, e_isK, isK1_s, e_bools, b_last, b_more, bolC_s, bolD_s, e_not, not1_s, e_ite, ite1_s, ite2_s, es_nil, es_cons, es1_s, es2_s, e_tup, e_lst, tup1_s, lst1_s,
 e_sub, sub1_s, sub2_s, o_none, o_some, o1_s, e_sl, sl1_s, sl2_s, sl3_s, e_rev, rev1_s, e_call, call1_s, e_callP, callP1_s, e_bi, bi1_s, e_me, me1_s, me2_s, e_isi, isi1_s, w_rngE, rng1_s, w_exE, wlk1_s, prL_some, walk_lst, walk_tup, walk_str, e_lc, lc1_s, lc2_s, e_lcP, lcP1_s, e_lc2, lcD1_s, e_lrng, lrng1_s, lrng2_s, e_sset, sset1_s, sset2_s, wipeE_nil, wipeE_cons, t_ev, tst1_s, ss_nil, ss_cons, seq_nx, seq_rt, seq_bk, seq_ct, seq_ite,
 s_asgV, s_asgO, asgV_s, asgO_s, settle_t, settle_c, frz_nil, frz_val, frz_none, frz_pool, frz_own, n_non, n_bl, n_int, n_str, n_lst, n_tup, n_nil, n_cons, s_unp, unp1_s, s_parE, par1_s, setAll_nil, setAll_cons, s_aug, aug1_s, aug2_i, aug2_t, aug3_s, s_app, app1_s, app2_s, s_ret, ret1_s, ret1_ite, s_if, if1_s, s_for, s_forT, for1_s, turnF_s, turnT_s, s_brk, s_cnt, s_pass, frzW_rng, frzW_ex,
 d_ev, d_nx, d_rt, d_ite, and_pure, or_pure, tru_bl, tru_int, tru_non, tru_str, tru_lst, tru_tup, pr_some, pr_gd, prB_some, prT_some, iniE, lawE, List.getElem?_cons_zero, List.getElem?_cons_succ, List.getElem?_nil, List.set_cons_zero, List.set_cons_succ, List.set_nil, List.map_cons, List.map_nil, List.nil_append, List.cons_append, List.append_nil, List.length_cons, List.length_nil, Nat.zero_le, Nat.reduceLeDiff, Nat.reduceAdd, List.replicate, ite_true, ite_false, if_true, if_false, Bool.false_eq_true, reduceIte, reduceCtorEq, ite_self, Bool.true_and, Bool.and_true, Bool.not_true, Bool.not_false, Bool.not_not, Option.map_some, Option.map_none, Pu.sizeLine_eq, cmp_ge, cmp_gt, cmp_le, cmp_lt, eq_i, eq_s, eq_b, ne_i, ne_s, ne_b, in_c, nin_c, op_add_i, op_add_s, op_add_t, op_add_l, op_sub_i, op_mul_r, op_mul_l, op_div_i, op_mod_i, bi_int, bi_intb, len_s, len_l, len_t, bi_list_t, bi_list_l, bi_tuple_t, bi_tuple_l, bi_min2, bi_max2, rev_s, rev_l, rev_t, sub_l, sub_t, sub_s, sl_l, sl_t, sl_s, at0, at1, at2, at3, lct_no, lct_yes, lctP_nm, l2T_nm, l2t1_s, ix_nm, ix_tp, lct1_s, lct2_s, lct3_s, gd_pos, h, show ¬ lo ≤ i by omega, decide_true, decide_false, Bool.false_and]
    · simp only [gd_T, e_con, e_glob, e_var, rd_val, rd_own, e_bin, bin1_s, bin2_s, e_neg, neg1_s, e_cmp, cmp1_s, cmp2_s, e_chn, chn1_s, chn2_s, chn3_s, e_isK, isK1_s, e_bools, b_last, b_more, bolC_s, bolD_s, e_not, not1_s, e_ite, ite1_s, ite2_s, es_nil, es_cons, es1_s, es2_s, e_tup, e_lst, tup1_s, lst1_s,
 e_sub, sub1_s, sub2_s, o_none, o_some, o1_s, e_sl, sl1_s, sl2_s, sl3_s, e_rev, rev1_s, e_call, call1_s, e_callP, callP1_s, e_bi, bi1_s, e_me, me1_s, me2_s, e_isi, isi1_s, w_rngE, rng1_s, w_exE, wlk1_s, prL_some, walk_lst, walk_tup, walk_str, e_lc, lc1_s, lc2_s, e_lcP, lcP1_s, e_lc2, lcD1_s, e_lrng, lrng1_s, lrng2_s, e_sset, sset1_s, sset2_s, wipeE_nil, wipeE_cons, t_ev, tst1_s, ss_nil, ss_cons, seq_nx, seq_rt, seq_bk, seq_ct, seq_ite,
 s_asgV, s_asgO, asgV_s, asgO_s, settle_t, settle_c, frz_nil, frz_val, frz_none, frz_pool, frz_own, n_non, n_bl, n_int, n_str, n_lst, n_tup, n_nil, n_cons, s_unp, unp1_s, s_parE, par1_s, setAll_nil, setAll_cons, s_aug, aug1_s, aug2_i, aug2_t, aug3_s, s_app, app1_s, app2_s, s_ret, ret1_s, ret1_ite, s_if, if1_s, s_for, s_forT, for1_s, turnF_s, turnT_s, s_brk, s_cnt, s_pass, frzW_rng, frzW_ex,
 d_ev, d_nx, d_rt, d_ite, and_pure, or_pure, tru_bl, tru_int, tru_non, tru_str, tru_lst, tru_tup, pr_some, pr_gd, prB_some, prT_some, iniE, lawE, List.getElem?_cons_zero, List.getElem?_cons_succ, List.getElem?_nil, List.set_cons_zero, List.set_cons_succ, List.set_nil, List.map_cons, List.map_nil, List.nil_append, List.cons_append, List.append_nil, List.length_cons, List.length_nil, Nat.zero_le, Nat.reduceLeDiff, Nat.reduceAdd, List.replicate, ite_true, ite_false, if_true, if_false, Bool.false_eq_true, reduceIte, reduceCtorEq, ite_self, Bool.true_and, Bool.and_true, Bool.not_true, Bool.not_false, Bool.not_not, Option.map_some, Option.map_none, Pu.sizeLine_eq, cmp_ge, cmp_gt, cmp_le, cmp_lt, eq_i, eq_s, eq_b, ne_i, ne_s, ne_b, in_c, nin_c, op_add_i, op_add_s, op_add_t, op_add_l, op_sub_i, op_mul_r, op_mul_l, op_div_i, op_mod_i, bi_int, bi_intb, len_s, len_l, len_t, bi_list_t, bi_list_l, bi_tuple_t, bi_tuple_l, bi_min2, bi_max2, rev_s, rev_l, rev_t, sub_l, sub_t, sub_s, sl_l, sl_t, sl_s, at0, at1, at2, at3, lct_no, lct_yes, lctP_nm, l2T_nm, l2t1_s, ix_nm, ix_tp, lct1_s, lct2_s, lct3_s, gd_pos, h, show lo ≤ i by omega, decide_true, decide_false]
      congr 3
      by_cases h2 : hi < i
      · rw [decide_eq_true h2, decide_eq_false (by omega)]; rfl
      · rw [decide_eq_false h2, decide_eq_true (by omega)]; rfl
  | _ => simp only [gd_T, e_con, e_glob, e_var, rd_val, rd_own, e_bin, bin1_s, bin2_s, e_neg, neg1_s, e_cmp, cmp1_s, cmp2_s, e_chn, chn1_s, chn2_s, chn3_s, e_isK, isK1_s, e_bools, b_last, b_more, bolC_s, bolD_s, e_not, not1_s, e_ite, ite1_s, ite2_s, es_nil, es_cons, es1_s, es2_s, e_tup, e_lst, tup1_s, lst1_s,
 e_sub, sub1_s, sub2_s, o_none, o_some, o1_s, e_sl, sl1_s, sl2_s, sl3_s, e_rev, rev1_s, e_call, call1_s, e_callP, callP1_s, e_bi, bi1_s, e_me, me1_s, me2_s, e_isi, isi1_s, w_rngE, rng1_s, w_exE, wlk1_s, prL_some, walk_lst, walk_tup, walk_str, e_lc, lc1_s, lc2_s, e_lcP, lcP1_s, e_lc2, lcD1_s, e_lrng, lrng1_s, lrng2_s, e_sset, sset1_s, sset2_s, wipeE_nil, wipeE_cons, t_ev, tst1_s, ss_nil, ss_cons, seq_nx, seq_rt, seq_bk, seq_ct, seq_ite,
 s_asgV, s_asgO, asgV_s, asgO_s, settle_t, settle_c, frz_nil, frz_val, frz_none, frz_pool, frz_own, n_non, n_bl, n_int, n_str, n_lst, n_tup, n_nil, n_cons, s_unp, unp1_s, s_parE, par1_s, setAll_nil, setAll_cons, s_aug, aug1_s, aug2_i, aug2_t, aug3_s, s_app, app1_s, app2_s, s_ret, ret1_s, ret1_ite, s_if, if1_s, s_for, s_forT, for1_s, turnF_s, turnT_s, s_brk, s_cnt, s_pass, frzW_rng, frzW_ex,
 d_ev, d_nx, d_rt, d_ite, and_pure, or_pure, tru_bl, tru_int, tru_non, tru_str, tru_lst, tru_tup, pr_some, pr_gd, prB_some, prT_some, iniE, lawE, List.getElem?_cons_zero, List.getElem?_cons_succ, List.getElem?_nil, List.set_cons_zero, List.set_cons_succ, List.set_nil, List.map_cons, List.map_nil, List.nil_append, List.cons_append, List.append_nil, List.length_cons, List.length_nil, Nat.zero_le, Nat.reduceLeDiff, Nat.reduceAdd, List.replicate, ite_true, ite_false, if_true, if_false, Bool.false_eq_true, reduceIte, reduceCtorEq, ite_self, Bool.true_and, Bool.and_true, Bool.not_true, Bool.not_false, Bool.not_not, Option.map_some, Option.map_none, Pu.sizeLine_eq, cmp_ge, cmp_gt, cmp_le, cmp_lt, eq_i, eq_s, eq_b, ne_i, ne_s, ne_b, in_c, nin_c, op_add_i, op_add_s, op_add_t, op_add_l, op_sub_i, op_mul_r, op_mul_l, op_div_i, op_mod_i, bi_int, bi_intb, len_s, len_l, len_t, bi_list_t, bi_list_l, bi_tuple_t, bi_tuple_l, bi_min2, bi_max2, rev_s, rev_l, rev_t, sub_l, sub_t, sub_s, sl_l, sl_t, sl_s, at0, at1, at2, at3, lct_no, lct_yes, lctP_nm, l2T_nm, l2t1_s, ix_nm, ix_tp, lct1_s, lct2_s, lct3_s, gd_pos, is_int_ev, isI, fromB]
end Pu
set_option Elab.async false
set_option linter.all false
set_option maxRecDepth 100000
set_option maxHeartbeats 1000000
namespace Wd

/-! ### periods and powers of words, plain -/
section
variable {α : Type}
/-- the first n letters of a row have a period -/
def Per (f : Nat → α) (n p : Nat) : Prop := ∀ i, i + p < n → f i = f (i + p)
theorem Per.mul {f : Nat → α} {n p : Nat} (h : Per f n p) : ∀ (k i : Nat), i + k * p < n → f i = f (i + k * p)
  | 0, i, _ => by rw [Nat.zero_mul, Nat.add_zero]
  | k + 1, i, hi => by
    rw [Nat.succ_mul] at hi ⊢
    rw [Per.mul h k i (by omega), h (i + k * p) (by omega), Nat.add_assoc]
theorem Per.shift {f : Nat → α} {n p : Nat} (h : Per f n p) (s : Nat) : Per (fun i => f (s + i)) (n - s) p := fun i hi => by
  have := h (s + i) (by omega)
  rw [Nat.add_assoc] at this
  exact this
theorem Per.less {f : Nat → α} {n p m : Nat} (h : Per f n p) (hm : m ≤ n) : Per f m p := fun i hi => h i (by omega)
/-- two periods of a row that is long enough -/
theorem fine_wilf {f : Nat → α} {n p q : Nat} (hp : 0 < p) (hq : 0 < q) (h1 : Per f n p) (h2 : Per f n q) (hn : p + q - Nat.gcd p q ≤ n) : Per f n (Nat.gcd p q) := by
  suffices H : ∀ (m p q : Nat) (f : Nat → α) (n : Nat), p + q ≤ m → 0 < p → p ≤ q → Per f n p → Per f n q → p + q - Nat.gcd p q ≤ n → Per f n (Nat.gcd p q) by
    rcases Nat.le_total p q with h | h
    · exact H (p + q) p q f n (Nat.le_refl _) hp h h1 h2 hn
    · rw [Nat.gcd_comm] at hn ⊢
      exact H (q + p) q p f n (Nat.le_refl _) hq h h2 h1 (by omega)
  intro m
  induction m with
  | zero => intro p q f n hm h0; omega
  | succ m ih =>
    intro p q f n hm h0 hpq h1 h2 hn
    by_cases he : p = q
    · subst he
      rw [Nat.gcd_self]
      exact h1
    · have hg : Nat.gcd p (q - p) = Nat.gcd p q := Nat.gcd_sub_self_right hpq
      generalize hd : Nat.gcd p q = d at hn hg ⊢
      have hdp : d ∣ p := hd ▸ Nat.gcd_dvd_left p q
      have hdq : d ∣ q - p := hg ▸ Nat.gcd_dvd_right p (q - p)
      have hdle : d ≤ p := Nat.le_of_dvd h0 hdp
      have hdle2 : d ≤ q - p := Nat.le_of_dvd (by omega) hdq
      have hd0 : 0 < d := hd ▸ Nat.gcd_pos_of_pos_left _ h0
      -- the rest behind the first p letters
      have g1 : Per (fun i => f (p + i)) (n - p) p := h1.shift p
      have g2 : Per (fun i => f (p + i)) (n - p) (q - p) := fun i hi => by
        have a := h1 i (by omega)
        have b := h2 i (by omega)
        show f (p + i) = f (p + (i + (q - p)))
        rw [Nat.add_comm p i, ← a, b]
        congr 1
        omega
      have g3 : Per (fun i => f (p + i)) (n - p) d := by
        rcases Nat.le_total p (q - p) with h | h
        · have := ih p (q - p) (fun i => f (p + i)) (n - p) (by omega) h0 h g1 g2 (by rw [hg]; omega)
          rw [hg] at this
          exact this
        · have := ih (q - p) p (fun i => f (p + i)) (n - p) (by omega) (by omega) h g2 g1 (by rw [Nat.gcd_comm, hg]; omega)
          rw [Nat.gcd_comm, hg] at this
          exact this
      intro i hi
      by_cases hip : p ≤ i
      · have := g3 (i - p) (by omega)
        have e1 : p + (i - p) = i := by omega
        have e2 : p + (i - p + d) = i + d := by omega
        simp only [e1, e2] at this
        exact this
      · by_cases hid : i + d < p
        · have a := h1 i (by omega)
          have b := h1 (i + d) (by omega)
          have c := g3 i (by omega)
          show f i = f (i + d)
          rw [a, b]
          have e : i + d + p = p + (i + d) := by omega
          rw [e, Nat.add_comm i p]
          exact c
        · have a := h1 i (by omega)
          obtain ⟨k, hk⟩ := hdp
          have hk2 : p - d = (k - 1) * d := by rw [Nat.mul_comm] at hk; rw [Nat.sub_mul, Nat.one_mul, ← hk]
          have c := Per.mul g3 (k - 1) (i + d - p) (by rw [← hk2]; omega)
          rw [← hk2] at c
          have e1 : p + (i + d - p) = i + d := by omega
          have e2 : p + (i + d - p + (p - d)) = i + p := by omega
          simp only [e1, e2] at c
          rw [a, c]

/-! ### rows that turn round -/
def Cyc (f : Nat → α) (s : Nat) : Prop := ∀ i, f (i + s) = f i
theorem Cyc.mul {f : Nat → α} {s : Nat} (h : Cyc f s) : ∀ k, Cyc f (k * s)
  | 0 => fun i => by rw [Nat.zero_mul, Nat.add_zero]
  | k + 1 => fun i => by rw [Nat.succ_mul, ← Nat.add_assoc, h, Cyc.mul h k]
theorem Cyc.sub {f : Nat → α} {s t : Nat} (h : Cyc f s) (g : Cyc f t) (hst : s ≤ t) : Cyc f (t - s) := fun i => by
  have a := h (i + (t - s))
  have e : i + (t - s) + s = i + t := by omega
  rw [e, g] at a
  exact a.symm
theorem Cyc.mod {f : Nat → α} {s t : Nat} (h : Cyc f s) (g : Cyc f t) : Cyc f (t % s) := by
  have : t % s = t - t / s * s := by
    have := Nat.div_add_mod t s
    rw [Nat.mul_comm] at this
    omega
  rw [this]
  exact (h.mul _).sub g (Nat.div_mul_le_self t s)
theorem Cyc.gcd {f : Nat → α} : ∀ {s t : Nat}, Cyc f s → Cyc f t → Cyc f (Nat.gcd s t) := by
  intro s t
  refine Nat.gcd.induction s t (P := fun s t => Cyc f s → Cyc f t → Cyc f (Nat.gcd s t)) (fun t _ g => by rw [Nat.gcd_zero_left]; exact g) (fun s t hs ih h g => ?_)
  rw [Nat.gcd_rec]
  exact ih (h.mod g) h
/-- a word's letters for ever -/
def ev (w : List α) (i : Nat) : Option α := w[i % w.length]?
theorem ev_len (w : List α) : Cyc (ev w) w.length := fun i => by unfold ev; rw [Nat.add_mod_right]
def rot (k : Nat) (w : List α) : List α := w.drop k ++ w.take k
theorem rot_len {k : Nat} {w : List α} : (rot k w).length = w.length := by
  unfold rot
  rw [List.length_append, List.length_drop, List.length_take]
  omega
theorem rot_get {k : Nat} {w : List α} (hk : k ≤ w.length) {i : Nat} (hi : i < w.length) : (rot k w)[i]? = ev w (i + k) := by
  unfold rot ev
  by_cases h : i < w.length - k
  · rw [List.getElem?_append_left (by rw [List.length_drop]; exact h), List.getElem?_drop, Nat.mod_eq_of_lt (by omega), Nat.add_comm]
  · rw [List.getElem?_append_right (by rw [List.length_drop]; omega), List.length_drop]
    have e : (i + k) % w.length = i - (w.length - k) := by
      have e1 : i + k = (i - (w.length - k)) + w.length := by omega
      rw [e1, Nat.add_mod_right, Nat.mod_eq_of_lt (by omega)]
      -- done
    rw [e, List.getElem?_take_of_lt (by omega)]
theorem ev_rot {k : Nat} {w : List α} (hk : k ≤ w.length) (i : Nat) : ev (rot k w) i = ev w (i + k) := by
  by_cases h : w.length = 0
  · have : w = [] := List.eq_nil_of_length_eq_zero h
    subst this
    simp [ev, rot]
  · have hlt : i % w.length < w.length := Nat.mod_lt _ (by omega)
    have : ev (rot k w) i = (rot k w)[i % w.length]? := by
      show (rot k w)[i % (rot k w).length]? = _
      rw [rot_len]
    rw [this, rot_get hk hlt]
    unfold ev
    congr 1
    rw [Nat.add_mod, Nat.mod_mod, ← Nat.add_mod]
theorem ev_ext {u w : List α} (hl : u.length = w.length) (h : ∀ i, ev u i = ev w i) : u = w := by
  apply List.ext_getElem? 
  intro i
  by_cases hi : i < w.length
  · have := h i
    unfold ev at this
    rw [hl, Nat.mod_eq_of_lt hi] at this
    exact this
  · rw [List.getElem?_eq_none (by omega), List.getElem?_eq_none (by omega)]
theorem rot_eq {k : Nat} {w : List α} (hk : k ≤ w.length) : rot k w = w ↔ Cyc (ev w) k := by
  constructor
  · intro h i
    rw [← ev_rot hk, h]
  · intro h
    exact ev_ext rot_len fun i => by rw [ev_rot hk, h]
def PerL (w : List α) (p : Nat) : Prop := Per (fun i => w[i]?) w.length p
theorem cyc_per {w : List α} {p : Nat} (hd : p ∣ w.length) : Cyc (ev w) p ↔ PerL w p := by
  constructor
  · intro h i hi
    have := h i
    unfold ev at this
    rw [Nat.mod_eq_of_lt (by omega), Nat.mod_eq_of_lt (by omega)] at this
    exact this.symm
  · intro h i
    obtain ⟨k, hk⟩ := hd
    by_cases h0 : w.length = 0
    · have : w = [] := List.eq_nil_of_length_eq_zero h0
      subst this
      simp [ev]
    · have hp : 0 < p := Nat.pos_of_ne_zero fun z => by rw [z, Nat.zero_mul] at hk; omega
      have hlt : i % w.length < w.length := Nat.mod_lt _ (by omega)
      have e : ev w (i + p) = ev w (i % w.length + p) := by
        unfold ev
        congr 1
        rw [Nat.add_mod, ← Nat.mod_mod, Nat.add_mod_mod, Nat.mod_add_mod, Nat.mod_mod]
        -- done
      rw [e]
      show ev w _ = w[i % w.length]?
      generalize i % w.length = j at hlt
      by_cases hj : j + p < w.length
      · unfold ev
        rw [Nat.mod_eq_of_lt hj]
        exact (h j hj).symm
      · -- the last part
        have hpn : p ≤ w.length := Nat.le_of_dvd (by omega) ⟨k, hk⟩
        have ej : (j + p) % w.length = j + p - w.length := by
          have e1 : j + p = (j + p - w.length) + w.length := by omega
          rw [e1, Nat.add_mod_right, Nat.mod_eq_of_lt (by omega)]
          omega
        unfold ev
        rw [ej]
        have hk1 : w.length - p = (k - 1) * p := by rw [Nat.sub_mul, Nat.one_mul, Nat.mul_comm k p, ← hk]
        have := Per.mul h (k - 1) (j + p - w.length) (by rw [← hk1]; omega)
        rw [← hk1] at this
        rw [this]
        congr 1
        omega
def pw (n : Nat) (w : List α) : List α := (List.replicate n w).flatten
theorem pw_zero {w : List α} : pw 0 w = [] := rfl
theorem pw_succ {n : Nat} {w : List α} : pw (n + 1) w = w ++ pw n w := by unfold pw; rw [List.replicate_succ, List.flatten_cons]
theorem pw_len {n : Nat} {w : List α} : (pw n w).length = n * w.length := by
  induction n with
  | zero => rw [pw_zero, Nat.zero_mul]; rfl
  | succ n ih => rw [pw_succ, List.length_append, ih, Nat.succ_mul, Nat.add_comm]
theorem pw_add {n m : Nat} {w : List α} : pw (n + m) w = pw n w ++ pw m w := by
  induction n with
  | zero => rw [Nat.zero_add, pw_zero, List.nil_append]
  | succ n ih => rw [Nat.succ_add, pw_succ, pw_succ, ih, List.append_assoc]
theorem pw_get {w : List α} : ∀ {n i : Nat}, i < n * w.length → (pw n w)[i]? = ev w i
  | 0, i, h => by rw [Nat.zero_mul] at h; omega
  | n + 1, i, h => by
    rw [pw_succ]
    by_cases hi : i < w.length
    · rw [List.getElem?_append_left hi]
      unfold ev
      rw [Nat.mod_eq_of_lt hi]
    · rw [Nat.succ_mul] at h
      rw [List.getElem?_append_right (by omega), pw_get (by omega)]
      have := ev_len w (i - w.length)
      rw [Nat.sub_add_cancel (by omega)] at this
      exact this.symm
theorem pw_pw {n m : Nat} {w : List α} : pw n (pw m w) = pw (n * m) w := by
  induction n with
  | zero => rw [Nat.zero_mul]; rfl
  | succ n ih => rw [pw_succ, ih, Nat.succ_mul, Nat.add_comm (n * m) m, pw_add]
/-- a word is a power of its first letters when their number is a period that divides its length -/
theorem pw_iff {w : List α} {p : Nat} (hd : p ∣ w.length) : pw (w.length / p) (w.take p) = w ↔ PerL w p := by
  by_cases h0 : w.length = 0
  · have : w = [] := List.eq_nil_of_length_eq_zero h0
    subst this
    have : pw ([] : List α).length ([] : List α) = [] := rfl
    constructor
    · intro _ i hi; simp at hi
    · intro _; apply List.eq_nil_of_length_eq_zero; rw [pw_len]; simp
  · have hp : 0 < p := Nat.pos_of_ne_zero fun z => by subst z; obtain ⟨k, hk⟩ := hd; rw [Nat.zero_mul] at hk; omega
    have hpn : p ≤ w.length := Nat.le_of_dvd (by omega) hd
    have hlt : (w.take p).length = p := by rw [List.length_take]; omega
    have hq : w.length / p * p = w.length := Nat.div_mul_cancel hd
    have hev : ∀ i, ev (w.take p) i = w[i % p]? := fun i => by
      unfold ev
      rw [hlt, List.getElem?_take_of_lt (Nat.mod_lt _ hp)]
    constructor
    · intro h i hi
      have a := pw_get (w := w.take p) (n := w.length / p) (i := i) (by rw [hlt, hq]; omega)
      have b := pw_get (w := w.take p) (n := w.length / p) (i := i + p) (by rw [hlt, hq]; omega)
      rw [h] at a b
      show w[i]? = w[i + p]?
      rw [a, b, hev, hev, Nat.add_mod_right]
    · intro h
      apply List.ext_getElem?
      intro i
      by_cases hi : i < w.length
      · rw [pw_get (by rw [hlt, hq]; exact hi), hev]
        have := Per.mul h (i / p) (i % p) (by rw [Nat.mul_comm, Nat.mod_add_div]; exact hi)
        rw [this]
        show w[i % p + i / p * p]? = _
        rw [Nat.mul_comm, Nat.mod_add_div]
      · rw [List.getElem?_eq_none (by rw [pw_len, hlt, hq]; omega), List.getElem?_eq_none (by omega)]
theorem pw_per {u : List α} {n : Nat} : PerL (pw n u) u.length := fun i hi => by
  rw [pw_len] at hi
  show (pw n u)[i]? = (pw n u)[i + u.length]?
  rw [pw_get (by omega), pw_get hi, ev_len]
/-- words that give the same both ways round -/
theorem comm_rot {x y : List α} : x ++ y = y ++ x ↔ Cyc (ev (x ++ y)) x.length := by
  rw [← rot_eq (by rw [List.length_append]; omega)]
  unfold rot
  rw [List.drop_left, List.take_left]
  exact ⟨Eq.symm, Eq.symm⟩
end
end Wd
set_option Elab.async false
set_option linter.all false
set_option maxRecDepth 100000
set_option maxHeartbeats 1000000
namespace Pu
open PySem PySem.Spec PyProof.Rows L2

/-! ### walks over numbers -/
def rngA (a n : Nat) : List D := (List.range' a n).map fun k => .int (k : Nat)
theorem rngD_A {n : Nat} : rngD n = rngA 0 n := by unfold rngD rngA; rw [List.range_eq_range']
theorem rngA_len {a n : Nat} : (rngA a n).length = n := by simp [rngA]
theorem rngA_get {a n i : Nat} (h : i < (rngA a n).length) : (rngA a n)[i] = .int ((a + i : Nat) : Int) := by simp [rngA]
theorem rngL_2 {a b : Nat} (ha : a < 4611686018427387904) (hb : b < 4611686018427387904) : rngL [.int (a : Nat), .int (b : Nat)] = some (rngA a (b - a)) := by
  show gd _ _ = _
  rw [gd_pos ⟨⟨by omega, by omega⟩, by omega, by omega⟩]
  congr 1
  unfold rngA
  have e : ((b : Int) - (a : Int)).toNat = b - a := by omega
  rw [e, List.range'_eq_map_range, List.map_map]
  apply List.map_congr_left
  intro k _
  show D.int _ = D.int _
  congr 1
theorem rngL_2i {a b : Int} {x y : Nat} (ha : a = (x : Nat)) (hb : b = (y : Nat)) (h1 : x < 4611686018427387904) (h2 : y < 4611686018427387904) : rngL [.int a, .int b] = some (rngA x (y - x)) := by
  subst ha hb; exact rngL_2 h1 h2
theorem lc_rngA {turn : D → Pool → Option (Option D × Pool)} {a n : Nat} {pl : Pool} {g : Nat → D} (h : ∀ k, a ≤ k → k < a + n → turn (.int (k : Nat)) pl = some (some (g k), pl)) : lcGo turn (rngA a n) pl = some ((List.range' a n).map g, pl) := by
  have := lc_pure (turn := turn) (pl := pl) (ds := rngA a n) (g := fun x => match x with | .int i => some (g i.toNat) | _ => none) (fun x hx => by
    obtain ⟨k, hk, rfl⟩ := List.mem_map.mp hx
    rw [List.mem_range'_1] at hk
    rw [h k hk.1 hk.2]
    simp)
  rw [this]
  congr 2
  unfold rngA
  rw [List.filterMap_map]
  show List.filterMap (fun k : Nat => some (g (Int.toNat (k : Nat)))) _ = _
  rw [List.filterMap_eq_map']
  apply List.map_congr_left
  intro k _
  rw [Int.toNat_natCast]
theorem lc_rngF {turn : D → Pool → Option (Option D × Pool)} {a n : Nat} {pl : Pool} {p : Nat → Bool} {g : Nat → D} (h : ∀ k, a ≤ k → k < a + n → turn (.int (k : Nat)) pl = if p k = true then some (some (g k), pl) else some (none, pl)) : lcGo turn (rngA a n) pl = some (((List.range' a n).filter p).map g, pl) := by
  have := lc_pure (turn := turn) (pl := pl) (ds := rngA a n) (g := fun x => match x with | .int i => if p i.toNat = true then some (g i.toNat) else none | _ => none) (fun x hx => by
    obtain ⟨k, hk, rfl⟩ := List.mem_map.mp hx
    rw [List.mem_range'_1] at hk
    rw [h k hk.1 hk.2]
    simp only [Int.toNat_natCast]
    split <;> rfl)
  rw [this]
  congr 2
  unfold rngA
  rw [List.filterMap_map]
  generalize List.range' a n = l
  clear h this
  induction l with
  | nil => rfl
  | cons k l ih =>
    rw [List.filterMap_cons, List.filter_cons]
    simp only [Function.comp, Int.toNat_natCast]
    by_cases hp : p k = true
    · rw [if_pos hp, if_pos hp, List.map_cons, ← ih]
    · rw [if_neg hp, if_neg hp, ← ih]
/-- a loop that keeps a state -/
theorem for_fold {σ : Type} {turn : D → Env → Pool → RsS} {E : σ → Slot → Env} {step : σ → D → σ} {I : σ → Prop} {pl : Pool} : ∀ {l : List D} {st : σ} {s : Slot}, I st →
    (∀ x ∈ l, ∀ st s, I st → (turn x (E st s) pl = some (.nx, E (step st x) (.val x), pl) ∨ turn x (E st s) pl = some (.ct, E (step st x) (.val x), pl)) ∧ I (step st x)) →
    ∃ s', forGo turn l (E st s) pl = some (.nx, E (l.foldl step st) s', pl) ∧ I (l.foldl step st)
  | [], st, s, hi, _ => ⟨s, rfl, hi⟩
  | x :: xs, st, s, hi, h => by
    obtain ⟨h1, h2⟩ := h x List.mem_cons_self st s hi
    obtain ⟨s', e, h3⟩ := for_fold (l := xs) (st := step st x) (s := .val x) h2 fun y hy => h y (List.mem_cons_of_mem _ hy)
    refine ⟨s', ?_, h3⟩
    rcases h1 with h1 | h1 <;> (unfold forGo; rw [h1]; exact e)
/-- a loop that ends at the first that fits -/
theorem for_find {turn : D → Env → Pool → RsS} {E : Slot → Env} {p : D → Bool} {g : D → D} {pl : Pool} : ∀ {l : List D} {s : Slot},
    (∀ x ∈ l, ∀ s, turn x (E s) pl = if p x = true then some (.rt (g x), E (.val x), pl) else some (.nx, E (.val x), pl)) →
    ∃ s', forGo turn l (E s) pl = match l.find? p with | some x => some (.rt (g x), E (.val x), pl) | none => some (.nx, E s', pl)
  | [], s, _ => ⟨s, rfl⟩
  | x :: xs, s, h => by
    have h1 := h x List.mem_cons_self s
    obtain ⟨s', e⟩ := for_find (l := xs) (s := .val x) fun y hy => h y (List.mem_cons_of_mem _ hy)
    refine ⟨s', ?_⟩
    rw [List.find?_cons]
    by_cases hp : p x = true
    · rw [if_pos hp] at h1
      unfold forGo
      rw [h1, hp]
      rfl
    · rw [if_neg hp] at h1
      have hp : p x = false := by simpa using hp
      unfold forGo
      rw [h1, hp]
      exact e
/-- a while loop by a measure -/
theorem wh_inv {σ : Type} {tst : Env → Pool → Option (Bool × Pool)} {body : Env → Pool → RsS} {E : σ → Env} {pl : Pool} {I : σ → Prop} {c : σ → Bool} {step : σ → σ} {μ : σ → Nat}
    (h1 : ∀ st, I st → tst (E st) pl = some (c st, pl))
    (h2 : ∀ st, I st → c st = true → body (E st) pl = some (.nx, E (step st), pl) ∧ I (step st) ∧ μ (step st) < μ st) : ∀ {n : Nat} {st : σ}, I st → μ st < n →
    ∃ st', I st' ∧ c st' = false ∧ whGo tst body n (E st) pl = some (.nx, E st', pl)
  | 0, st, hi, hn => by omega
  | n + 1, st, hi, hn => by
    cases hc : c st with
    | false => exact ⟨st, hi, hc, by unfold whGo; rw [h1 st hi, hc]; rfl⟩
    | true =>
      obtain ⟨e, hi2, hm⟩ := h2 st hi hc
      obtain ⟨st', q1, q2, q3⟩ := wh_inv h1 h2 (n := n) (st := step st) hi2 (by omega)
      refine ⟨st', q1, q2, ?_⟩
      unfold whGo
      rw [h1 st hi, hc]
      show ((body (E st) pl).bind _) = _
      rw [e]
      exact q3

/-! ### rows of words in order -/
def leN (a b : List Nat) : Bool := decide (a ≤ b)
def srt (l : List (List Nat)) : List (List Nat) := l.mergeSort leN
def uq (l : List (List Nat)) : List (List Nat) := srt (ddL l)
theorem leN_tr (a b c : List Nat) (h1 : leN a b = true) (h2 : leN b c = true) : leN a c = true := by
  unfold leN at *
  rw [decide_eq_true_eq] at *
  exact List.le_trans h1 h2
theorem leN_to (a b : List Nat) : (leN a b || leN b a) = true := by
  unfold leN
  rw [Bool.or_eq_true, decide_eq_true_eq, decide_eq_true_eq]
  exact List.le_total a b
theorem srt_perm {l : List (List Nat)} : (srt l).Perm l := List.mergeSort_perm _ _
theorem srt_mem {l : List (List Nat)} {x : List Nat} : x ∈ srt l ↔ x ∈ l := srt_perm.mem_iff
theorem srt_len {l : List (List Nat)} : (srt l).length = l.length := srt_perm.length_eq
theorem srt_le {l : List (List Nat)} : (srt l).Pairwise (· ≤ ·) := by
  have := List.pairwise_mergeSort (le := leN) leN_tr leN_to l
  exact this.imp fun h => by simpa [leN] using h
theorem uq_mem {l : List (List Nat)} {x : List Nat} : x ∈ uq l ↔ x ∈ l := by
  unfold uq
  rw [srt_mem, ddL_mem]
theorem lt_of_le_ne {a b : List Nat} (h : a ≤ b) (hn : a ≠ b) : a < b := by
  rcases Classical.em (a < b) with h2 | h2
  · exact h2
  · exact absurd (List.le_antisymm h (List.not_lt.mp h2)) hn
theorem uq_lt {l : List (List Nat)} : (uq l).Pairwise (· < ·) := by
  have h1 : (uq l).Pairwise (· ≤ ·) := srt_le
  have h2 : (uq l).Nodup := srt_perm.nodup_iff.mpr (ddL_nodup l)
  exact (h1.and h2).imp fun ⟨a, b⟩ => lt_of_le_ne a b
theorem lt_unique : ∀ {l1 l2 : List (List Nat)}, l1.Pairwise (· < ·) → l2.Pairwise (· < ·) → (∀ x, x ∈ l1 ↔ x ∈ l2) → l1 = l2
  | [], [], _, _, _ => rfl
  | [], b :: l2, _, _, h => by have := (h b).mpr List.mem_cons_self; cases this
  | a :: l1, [], _, _, h => by have := (h a).mp List.mem_cons_self; cases this
  | a :: l1, b :: l2, h1, h2, h => by
    have p1 := List.pairwise_cons.mp h1
    have p2 := List.pairwise_cons.mp h2
    have e : a = b := by
      rcases List.mem_cons.mp ((h a).mp List.mem_cons_self) with e | e
      · exact e
      · rcases List.mem_cons.mp ((h b).mpr List.mem_cons_self) with e2 | e2
        · exact e2.symm
        · exact absurd (List.lt_trans (p1.1 b e2) (p2.1 a e)) (List.lt_irrefl _)
    subst e
    congr 1
    refine lt_unique p1.2 p2.2 fun x => ?_
    constructor
    · intro hx
      rcases List.mem_cons.mp ((h x).mp (List.mem_cons_of_mem _ hx)) with e | e
      · subst e; exact absurd (p1.1 x hx) (List.lt_irrefl _)
      · exact e
    · intro hx
      rcases List.mem_cons.mp ((h x).mpr (List.mem_cons_of_mem _ hx)) with e | e
      · subst e; exact absurd (p2.1 x hx) (List.lt_irrefl _)
      · exact e
theorem uq_of {l z : List (List Nat)} (h1 : l.Pairwise (· < ·)) (h : ∀ x, x ∈ l ↔ x ∈ z) : l = uq z := lt_unique h1 uq_lt fun x => by rw [uq_mem, h]
theorem uq_congr {l z : List (List Nat)} (h : ∀ x, x ∈ l ↔ x ∈ z) : uq l = uq z := lt_unique uq_lt uq_lt fun x => by rw [uq_mem, uq_mem, h]
theorem uq_len {l : List (List Nat)} : (uq l).length ≤ l.length := by
  unfold uq
  rw [srt_len]
  exact ddL_len l
theorem sortD_str (zs : List (List Nat)) : sortD (zs.map .str) = (srt zs).map .str := by
  have h := sortD_S (zs.map mkS) zs rfl
  rw [← h, leS]
  have h2 := List.map_mergeSort (r := fun a b : Str => decide (a.cps.toList ≤ b.cps.toList)) (s := leN) (f := fun k : Str => k.cps.toList) (l := zs.map mkS) (fun a _ b _ => rfl)
  have e : (zs.map mkS).map (fun k : Str => k.cps.toList) = zs := by
    rw [List.map_map]
    have : ((fun k : Str => k.cps.toList) ∘ mkS) = (id : List Nat → List Nat) := by funext l; rfl
    rw [this, List.map_id]
  rw [e] at h2
  unfold srt
  rw [← h2, List.map_map]
  rfl
theorem ssetL_str {zs : List (List Nat)} (h : zs.length < 4000) : ssetL (zs.map .str) = some ((uq zs).map .str) := by
  unfold ssetL
  rw [strs_map]
  show gd _ _ = _
  rw [gd_pos h, sortD_str]
  rfl
theorem alike_str (zs : List (List Nat)) : allAlike (zs.map .str) = true := by
  unfold allAlike
  rw [List.all_eq_true]
  intro x hx
  rw [List.all_eq_true]
  intro y hy
  obtain ⟨a, _, rfl⟩ := List.mem_map.mp hx
  obtain ⟨b, _, rfl⟩ := List.mem_map.mp hy
  rfl
theorem sortable_str (zs : List (List Nat)) : sortable (zs.map .str) = true := by
  unfold sortable
  rw [Bool.or_eq_true]
  right
  rw [List.all_eq_true]
  intro x hx
  obtain ⟨a, _, rfl⟩ := List.mem_map.mp hx
  rfl
theorem depDs_str (zs : List (List Nat)) : depDs (zs.map .str) ≤ 32 := by
  refine Nat.le_trans (depDs_max (k := 0) fun x hx => ?_) (by decide)
  obtain ⟨a, _, rfl⟩ := List.mem_map.mp hx
  simp [depD]
theorem sorted_str {zs : List (List Nat)} : opBi .sorted [.lst (zs.map .str)] = some (.lst ((srt zs).map .str)) := by
  show gd _ _ = _
  rw [gd_pos (by rw [alike_str, sortable_str, decide_eq_true (depDs_str zs)]; rfl), sortD_str]
theorem eqv_sm (a b : List Nat) : eqv (.str a) (.str b) = decide (a = b) := by
  show (a == b) = _
  rw [Bool.eq_iff_iff]; simp
theorem flat_strs (zs : List (List Nat)) : (zs.map D.str).all flatD = true := by
  rw [List.all_eq_true]
  intro x hx
  obtain ⟨a, _, rfl⟩ := List.mem_map.mp hx
  rfl
theorem inL_str {a : List Nat} {zs : List (List Nat)} : inL (.str a) (zs.map .str) = some (decide (a ∈ zs)) := by
  unfold inL
  rw [gd_pos (by rw [flat_strs]; rfl), List.any_map]
  congr 1
  rw [Bool.eq_iff_iff, List.any_eq_true, decide_eq_true_eq]
  constructor
  · rintro ⟨x, hx, h⟩
    have : decide (x = a) = true := by rw [← eqv_sm]; exact h
    rw [decide_eq_true_eq] at this
    exact this ▸ hx
  · intro h
    exact ⟨a, h, by show eqv (.str a) (.str a) = true; rw [eqv_sm, decide_eq_true rfl]⟩
theorem in_strs {a : List Nat} {zs : List (List Nat)} : opCmp .In (.str a) (.lst (zs.map .str)) = some (decide (a ∈ zs)) := inL_str
theorem nin_strs {a : List Nat} {zs : List (List Nat)} : opCmp .NotIn (.str a) (.lst (zs.map .str)) = some (!decide (a ∈ zs)) := by
  show (inL _ _).map _ = _
  rw [inL_str]
  rfl

/-! ### the laws' comparing -/
def b__law_kind : Sts := (.cons (.ite (.isi (.var 0) .bool) (.cons (.ret (.con (.int 1))) .nil) .nil) (.cons (.ite (.isi (.var 0) .int) (.cons (.ret (.con (.int 2))) .nil) .nil) (.cons (.ite (.isi (.var 0) .str) (.cons (.ret (.con (.int 3))) .nil) .nil) (.cons (.ite (.isi (.var 0) .tuple) (.cons (.ret (.con (.int 4))) .nil) .nil) (.cons (.ite (.isi (.var 0) .list) (.cons (.ret (.con (.int 5))) .nil) .nil) (.cons (.ite (.isi (.var 0) .dict) (.cons (.ret (.con (.int 6))) .nil) .nil) (.cons (.ret (.con (.int 0))) .nil)))))))
def F__law_kind : Fnc := fun ds pl => evD fuel b__law_kind 1 false ds pl
def kindI : D → Int
  | .bl _ => 1
  | .int _ => 2
  | .str _ => 3
  | .tup _ => 4
  | .lst _ => 5
  | .non => 0
theorem law_kind_ev {d : D} {pl : Pool} : F__law_kind [d] pl = some (.int (kindI d), pl) := by
  unfold F__law_kind b__law_kind
  cases d <;> simp only [gd_T, e_con, e_glob, e_var, rd_val, rd_own, e_bin, bin1_s, bin2_s, e_neg, neg1_s, e_cmp, cmp1_s, cmp2_s, e_chn, chn1_s, chn2_s, chn3_s, e_isK, isK1_s, e_bools, b_last, b_more, bolC_s, bolD_s, e_not, not1_s, e_ite, ite1_s, ite2_s, es_nil, es_cons, es1_s, es2_s, e_tup, e_lst, tup1_s, lst1_s,
 e_sub, sub1_s, sub2_s, o_none, o_some, o1_s, e_sl, sl1_s, sl2_s, sl3_s, e_rev, rev1_s, e_call, call1_s, e_callP, callP1_s, e_bi, bi1_s, e_me, me1_s, me2_s, e_isi, isi1_s, w_rngE, rng1_s, w_exE, wlk1_s, prL_some, walk_lst, walk_tup, walk_str, e_lc, lc1_s, lc2_s, e_lcP, lcP1_s, e_lc2, lcD1_s, e_lrng, lrng1_s, lrng2_s, e_sset, sset1_s, sset2_s, wipeE_nil, wipeE_cons, t_ev, tst1_s, ss_nil, ss_cons, seq_nx, seq_rt, seq_bk, seq_ct, seq_ite,
 s_asgV, s_asgO, asgV_s, asgO_s, settle_t, settle_c, frz_nil, frz_val, frz_none, frz_pool, frz_own, n_non, n_bl, n_int, n_str, n_lst, n_tup, n_nil, n_cons, s_unp, unp1_s, s_parE, par1_s, setAll_nil, setAll_cons, s_aug, aug1_s, aug2_i, aug2_t, aug3_s, s_app, app1_s, app2_s, s_ret, ret1_s, ret1_ite, s_if, if1_s, s_for, s_forT, for1_s, turnF_s, turnT_s, s_brk, s_cnt, s_pass, frzW_rng, frzW_ex,
 d_ev, d_nx, d_rt, d_ite, and_pure, or_pure, tru_bl, tru_int, tru_non, tru_str, tru_lst, tru_tup, pr_some, pr_gd, prB_some, prT_some, iniE, lawE, List.getElem?_cons_zero, List.getElem?_cons_succ, List.getElem?_nil, List.set_cons_zero, List.set_cons_succ, List.set_nil, List.map_cons, List.map_nil, List.nil_append, List.cons_append, List.append_nil, List.length_cons, List.length_nil, Nat.zero_le, Nat.reduceLeDiff, Nat.reduceAdd, List.replicate, ite_true, ite_false, if_true, if_false, Bool.false_eq_true, reduceIte, reduceCtorEq, ite_self, Bool.true_and, Bool.and_true, Bool.not_true, Bool.not_false, Bool.not_not, Option.map_some, Option.map_none, Pu.sizeLine_eq, cmp_ge, cmp_gt, cmp_le, cmp_lt, eq_i, eq_s, eq_b, ne_i, ne_s, ne_b, in_c, nin_c, op_add_i, op_add_s, op_add_t, op_add_l, op_sub_i, op_mul_r, op_mul_l, op_div_i, op_mod_i, bi_int, bi_intb, len_s, len_l, len_t, bi_list_t, bi_list_l, bi_tuple_t, bi_tuple_l, bi_min2, bi_max2, rev_s, rev_l, rev_t, sub_l, sub_t, sub_s, sl_l, sl_t, sl_s, at0, at1, at2, at3, lct_no, lct_yes, lctP_nm, l2T_nm, l2t1_s, ix_nm, ix_tp, lct1_s, lct2_s, lct3_s, gd_pos, isTy, kindI]
def lb__law_equal_0 (F__law_equal : Fnc) : Sts := (.cons (.ite (.bools false (.cons (.cmp .NotIn (.var 3) (.var 1)) (.cons (.notE (.call "_law_equal" 2 F__law_equal (.cons (.sub (.var 0) (.var 3)) (.cons (.sub (.var 1) (.var 3)) .nil)))) .nil))) (.cons (.ret (.con (.bl false))) .nil) .nil) (.cons (.ite (.cmp .Eq (.bi .len (.cons (.lc 4 (.ex (.var 1)) (.yes (.bools true (.cons (.cmp .Eq (.var 4) (.var 3)) (.cons (.call "_law_equal" 2 F__law_equal (.cons (.var 3) (.cons (.var 4) .nil))) .nil)))) (.var 4)) .nil)) (.con (.int 0))) (.cons (.ret (.con (.bl false))) .nil) .nil) .nil))
def b__law_equal (F__law_equal : Fnc) : Sts := (.cons (.ite (.cmp .NotEq (.call "_law_kind" 1 F__law_kind (.cons (.var 0) .nil)) (.call "_law_kind" 1 F__law_kind (.cons (.var 1) .nil))) (.cons (.ret (.con (.bl false))) .nil) .nil) (.cons (.ite (.bools false (.cons (.isi (.var 1) .tuple) (.cons (.isi (.var 1) .list) .nil))) (.cons (.ite (.cmp .NotEq (.bi .len (.cons (.var 0) .nil)) (.bi .len (.cons (.var 1) .nil))) (.cons (.ret (.con (.bl false))) .nil) .nil) (.cons (.ret (.cmp .Eq (.bi .len (.cons (.lc 2 (.rng (.cons (.bi .len (.cons (.var 1) .nil)) .nil)) (.yes (.notE (.call "_law_equal" 2 F__law_equal (.cons (.sub (.var 0) (.var 2)) (.cons (.sub (.var 1) (.var 2)) .nil))))) (.var 2)) .nil)) (.con (.int 0)))) .nil)) .nil) (.cons (.ite (.isi (.var 1) .dict) (.cons (.ite (.cmp .NotEq (.bi .len (.cons (.var 0) .nil)) (.bi .len (.cons (.var 1) .nil))) (.cons (.ret (.con (.bl false))) .nil) .nil) (.cons (.for_ 3 (.ex (.var 0)) (lb__law_equal_0 F__law_equal)) (.cons (.ret (.con (.bl true))) .nil))) .nil) (.cons (.ret (.cmp .Eq (.var 0) (.var 1))) .nil))))
def F__law_equal_at : Nat → Fnc
  | 0 => fun _ _ => none
  | m + 1 => fun ds pl => evD fuel (b__law_equal (F__law_equal_at m)) 5 false ds pl
abbrev F__law_equal : Fnc := F__law_equal_at 40
theorem eq_non : opCmp .Eq .non .non = some true := rfl
theorem law_equal_at : ∀ (m : Nat) (d : D) (pl : Pool), depD d < m → szD 10000000 d → F__law_equal_at m [d, d] pl = some (.bl true, pl)
  | 0, d, pl, h, _ => by omega
  | m + 1, d, pl, h, hs => by
    show evD fuel (b__law_equal (F__law_equal_at m)) 5 false [d, d] pl = _
    have seqs : ∀ (l : List D), l.length ≤ 10000000 → szDs 10000000 l → depDs l < m → ∀ (dd : D) (hsub : ∀ i : Int, opSub dd (.int i) = atI l i),
        lcGo (lcTurn 2 (.yes (.notE (.call "_law_equal" 2 (F__law_equal_at m) (.cons (.sub (.var 0) (.var 2)) (.cons (.sub (.var 1) (.var 2)) .nil))))) (.var 2) [.val dd, .val dd, .none, .none, .none]) (rngD l.length) pl = some ([], pl) := by
      intro l hl hz hd dd hsub
      rw [rngD_A]
      have := lc_rngF (turn := lcTurn 2 (.yes (.notE (.call "_law_equal" 2 (F__law_equal_at m) (.cons (.sub (.var 0) (.var 2)) (.cons (.sub (.var 1) (.var 2)) .nil))))) (.var 2) [.val dd, .val dd, .none, .none, .none]) (a := 0) (n := l.length) (pl := pl) (p := fun _ => false) (g := fun k => .int (k : Nat)) (fun k _ hk => by
        have hk : k < l.length := by omega
        have hm : l[k] ∈ l := List.getElem_mem hk
        have ih := law_equal_at m l[k] pl (by have := dep_le hm; omega) (szDs_iff.mp hz _ hm)
        have e : atI l (k : Nat) = some l[k] := by rw [Pu.atI_nat, List.getElem?_eq_getElem hk]
        simp only [gd_T, e_con, e_glob, e_var, rd_val, rd_own, e_bin, bin1_s, bin2_s, e_neg, neg1_s, e_cmp, cmp1_s, cmp2_s, e_chn, chn1_s, chn2_s, chn3_s, e_isK, isK1_s, e_bools, b_last, b_more, bolC_s, bolD_s, e_not, not1_s, e_ite, ite1_s, ite2_s, es_nil, es_cons, es1_s, es2_s, e_tup, e_lst, tup1_s, lst1_s,
 e_sub, sub1_s, sub2_s, o_none, o_some, o1_s, e_sl, sl1_s, sl2_s, sl3_s, e_rev, rev1_s, e_call, call1_s, e_callP, callP1_s, e_bi, bi1_s, e_me, me1_s, me2_s, e_isi, isi1_s, w_rngE, rng1_s, w_exE, wlk1_s, prL_some, walk_lst, walk_tup, walk_str, e_lc, lc1_s, lc2_s, e_lcP, lcP1_s, e_lc2, lcD1_s, e_lrng, lrng1_s, lrng2_s, e_sset, sset1_s, sset2_s, wipeE_nil, wipeE_cons, t_ev, tst1_s, ss_nil, ss_cons, seq_nx, seq_rt, seq_bk, seq_ct, seq_ite,
 s_asgV, s_asgO, asgV_s, asgO_s, settle_t, settle_c, frz_nil, frz_val, frz_none, frz_pool, frz_own, n_non, n_bl, n_int, n_str, n_lst, n_tup, n_nil, n_cons, s_unp, unp1_s, s_parE, par1_s, setAll_nil, setAll_cons, s_aug, aug1_s, aug2_i, aug2_t, aug3_s, s_app, app1_s, app2_s, s_ret, ret1_s, ret1_ite, s_if, if1_s, s_for, s_forT, for1_s, turnF_s, turnT_s, s_brk, s_cnt, s_pass, frzW_rng, frzW_ex,
 d_ev, d_nx, d_rt, d_ite, and_pure, or_pure, tru_bl, tru_int, tru_non, tru_str, tru_lst, tru_tup, pr_some, pr_gd, prB_some, prT_some, iniE, lawE, List.getElem?_cons_zero, List.getElem?_cons_succ, List.getElem?_nil, List.set_cons_zero, List.set_cons_succ, List.set_nil, List.map_cons, List.map_nil, List.nil_append, List.cons_append, List.append_nil, List.length_cons, List.length_nil, Nat.zero_le, Nat.reduceLeDiff, Nat.reduceAdd, List.replicate, ite_true, ite_false, if_true, if_false, Bool.false_eq_true, reduceIte, reduceCtorEq, ite_self, Bool.true_and, Bool.and_true, Bool.not_true, Bool.not_false, Bool.not_not, Option.map_some, Option.map_none, Pu.sizeLine_eq, cmp_ge, cmp_gt, cmp_le, cmp_lt, eq_i, eq_s, eq_b, ne_i, ne_s, ne_b, in_c, nin_c, op_add_i, op_add_s, op_add_t, op_add_l, op_sub_i, op_mul_r, op_mul_l, op_div_i, op_mod_i, bi_int, bi_intb, len_s, len_l, len_t, bi_list_t, bi_list_l, bi_tuple_t, bi_tuple_l, bi_min2, bi_max2, rev_s, rev_l, rev_t, sub_l, sub_t, sub_s, sl_l, sl_t, sl_s, at0, at1, at2, at3, lct_no, lct_yes, lctP_nm, l2T_nm, l2t1_s, ix_nm, ix_tp, lct1_s, lct2_s, lct3_s, gd_pos, hsub, e, ih])
      rw [this]
      simp
    unfold b__law_equal
    cases d with
    | tup l =>
      rw [szD] at hs
      rw [depD] at h
      have hl : l.length < 4611686018427387904 := by omega
      simp only [gd_T, e_con, e_glob, e_var, rd_val, rd_own, e_bin, bin1_s, bin2_s, e_neg, neg1_s, e_cmp, cmp1_s, cmp2_s, e_chn, chn1_s, chn2_s, chn3_s, e_isK, isK1_s, e_bools, b_last, b_more, bolC_s, bolD_s, e_not, not1_s, e_ite, ite1_s, ite2_s, es_nil, es_cons, es1_s, es2_s, e_tup, e_lst, tup1_s, lst1_s,
 e_sub, sub1_s, sub2_s, o_none, o_some, o1_s, e_sl, sl1_s, sl2_s, sl3_s, e_rev, rev1_s, e_call, call1_s, e_callP, callP1_s, e_bi, bi1_s, e_me, me1_s, me2_s, e_isi, isi1_s, w_rngE, rng1_s, w_exE, wlk1_s, prL_some, walk_lst, walk_tup, walk_str, e_lc, lc1_s, lc2_s, e_lcP, lcP1_s, e_lc2, lcD1_s, e_lrng, lrng1_s, lrng2_s, e_sset, sset1_s, sset2_s, wipeE_nil, wipeE_cons, t_ev, tst1_s, ss_nil, ss_cons, seq_nx, seq_rt, seq_bk, seq_ct, seq_ite,
 s_asgV, s_asgO, asgV_s, asgO_s, settle_t, settle_c, frz_nil, frz_val, frz_none, frz_pool, frz_own, n_non, n_bl, n_int, n_str, n_lst, n_tup, n_nil, n_cons, s_unp, unp1_s, s_parE, par1_s, setAll_nil, setAll_cons, s_aug, aug1_s, aug2_i, aug2_t, aug3_s, s_app, app1_s, app2_s, s_ret, ret1_s, ret1_ite, s_if, if1_s, s_for, s_forT, for1_s, turnF_s, turnT_s, s_brk, s_cnt, s_pass, frzW_rng, frzW_ex,
 d_ev, d_nx, d_rt, d_ite, and_pure, or_pure, tru_bl, tru_int, tru_non, tru_str, tru_lst, tru_tup, pr_some, pr_gd, prB_some, prT_some, iniE, lawE, List.getElem?_cons_zero, List.getElem?_cons_succ, List.getElem?_nil, List.set_cons_zero, List.set_cons_succ, List.set_nil, List.map_cons, List.map_nil, List.nil_append, List.cons_append, List.append_nil, List.length_cons, List.length_nil, Nat.zero_le, Nat.reduceLeDiff, Nat.reduceAdd, List.replicate, ite_true, ite_false, if_true, if_false, Bool.false_eq_true, reduceIte, reduceCtorEq, ite_self, Bool.true_and, Bool.and_true, Bool.not_true, Bool.not_false, Bool.not_not, Option.map_some, Option.map_none, Pu.sizeLine_eq, cmp_ge, cmp_gt, cmp_le, cmp_lt, eq_i, eq_s, eq_b, ne_i, ne_s, ne_b, in_c, nin_c, op_add_i, op_add_s, op_add_t, op_add_l, op_sub_i, op_mul_r, op_mul_l, op_div_i, op_mod_i, bi_int, bi_intb, len_s, len_l, len_t, bi_list_t, bi_list_l, bi_tuple_t, bi_tuple_l, bi_min2, bi_max2, rev_s, rev_l, rev_t, sub_l, sub_t, sub_s, sl_l, sl_t, sl_s, at0, at1, at2, at3, lct_no, lct_yes, lctP_nm, l2T_nm, l2t1_s, ix_nm, ix_tp, lct1_s, lct2_s, lct3_s, gd_pos, law_kind_ev, isTy, bne_self_eq_false, beq_self_eq_true, rngL_nat hl, seqs l hs.1 hs.2 (by omega) (.tup l) (fun _ => rfl)]
      rfl
    | lst l =>
      rw [szD] at hs
      rw [depD] at h
      have hl : l.length < 4611686018427387904 := by omega
      simp only [gd_T, e_con, e_glob, e_var, rd_val, rd_own, e_bin, bin1_s, bin2_s, e_neg, neg1_s, e_cmp, cmp1_s, cmp2_s, e_chn, chn1_s, chn2_s, chn3_s, e_isK, isK1_s, e_bools, b_last, b_more, bolC_s, bolD_s, e_not, not1_s, e_ite, ite1_s, ite2_s, es_nil, es_cons, es1_s, es2_s, e_tup, e_lst, tup1_s, lst1_s,
 e_sub, sub1_s, sub2_s, o_none, o_some, o1_s, e_sl, sl1_s, sl2_s, sl3_s, e_rev, rev1_s, e_call, call1_s, e_callP, callP1_s, e_bi, bi1_s, e_me, me1_s, me2_s, e_isi, isi1_s, w_rngE, rng1_s, w_exE, wlk1_s, prL_some, walk_lst, walk_tup, walk_str, e_lc, lc1_s, lc2_s, e_lcP, lcP1_s, e_lc2, lcD1_s, e_lrng, lrng1_s, lrng2_s, e_sset, sset1_s, sset2_s, wipeE_nil, wipeE_cons, t_ev, tst1_s, ss_nil, ss_cons, seq_nx, seq_rt, seq_bk, seq_ct, seq_ite,
 s_asgV, s_asgO, asgV_s, asgO_s, settle_t, settle_c, frz_nil, frz_val, frz_none, frz_pool, frz_own, n_non, n_bl, n_int, n_str, n_lst, n_tup, n_nil, n_cons, s_unp, unp1_s, s_parE, par1_s, setAll_nil, setAll_cons, s_aug, aug1_s, aug2_i, aug2_t, aug3_s, s_app, app1_s, app2_s, s_ret, ret1_s, ret1_ite, s_if, if1_s, s_for, s_forT, for1_s, turnF_s, turnT_s, s_brk, s_cnt, s_pass, frzW_rng, frzW_ex,
 d_ev, d_nx, d_rt, d_ite, and_pure, or_pure, tru_bl, tru_int, tru_non, tru_str, tru_lst, tru_tup, pr_some, pr_gd, prB_some, prT_some, iniE, lawE, List.getElem?_cons_zero, List.getElem?_cons_succ, List.getElem?_nil, List.set_cons_zero, List.set_cons_succ, List.set_nil, List.map_cons, List.map_nil, List.nil_append, List.cons_append, List.append_nil, List.length_cons, List.length_nil, Nat.zero_le, Nat.reduceLeDiff, Nat.reduceAdd, List.replicate, ite_true, ite_false, if_true, if_false, Bool.false_eq_true, reduceIte, reduceCtorEq, ite_self, Bool.true_and, Bool.and_true, Bool.not_true, Bool.not_false, Bool.not_not, Option.map_some, Option.map_none, Pu.sizeLine_eq, cmp_ge, cmp_gt, cmp_le, cmp_lt, eq_i, eq_s, eq_b, ne_i, ne_s, ne_b, in_c, nin_c, op_add_i, op_add_s, op_add_t, op_add_l, op_sub_i, op_mul_r, op_mul_l, op_div_i, op_mod_i, bi_int, bi_intb, len_s, len_l, len_t, bi_list_t, bi_list_l, bi_tuple_t, bi_tuple_l, bi_min2, bi_max2, rev_s, rev_l, rev_t, sub_l, sub_t, sub_s, sl_l, sl_t, sl_s, at0, at1, at2, at3, lct_no, lct_yes, lctP_nm, l2T_nm, l2t1_s, ix_nm, ix_tp, lct1_s, lct2_s, lct3_s, gd_pos, law_kind_ev, isTy, bne_self_eq_false, beq_self_eq_true, rngL_nat hl, seqs l hs.1 hs.2 (by omega) (.lst l) (fun _ => rfl)]
      rfl
    | _ => simp only [gd_T, e_con, e_glob, e_var, rd_val, rd_own, e_bin, bin1_s, bin2_s, e_neg, neg1_s, e_cmp, cmp1_s, cmp2_s, e_chn, chn1_s, chn2_s, chn3_s, e_isK, isK1_s, e_bools, b_last, b_more, bolC_s, bolD_s, e_not, not1_s, e_ite, ite1_s, ite2_s, es_nil, es_cons, es1_s, es2_s, e_tup, e_lst, tup1_s, lst1_s,
 e_sub, sub1_s, sub2_s, o_none, o_some, o1_s, e_sl, sl1_s, sl2_s, sl3_s, e_rev, rev1_s, e_call, call1_s, e_callP, callP1_s, e_bi, bi1_s, e_me, me1_s, me2_s, e_isi, isi1_s, w_rngE, rng1_s, w_exE, wlk1_s, prL_some, walk_lst, walk_tup, walk_str, e_lc, lc1_s, lc2_s, e_lcP, lcP1_s, e_lc2, lcD1_s, e_lrng, lrng1_s, lrng2_s, e_sset, sset1_s, sset2_s, wipeE_nil, wipeE_cons, t_ev, tst1_s, ss_nil, ss_cons, seq_nx, seq_rt, seq_bk, seq_ct, seq_ite,
 s_asgV, s_asgO, asgV_s, asgO_s, settle_t, settle_c, frz_nil, frz_val, frz_none, frz_pool, frz_own, n_non, n_bl, n_int, n_str, n_lst, n_tup, n_nil, n_cons, s_unp, unp1_s, s_parE, par1_s, setAll_nil, setAll_cons, s_aug, aug1_s, aug2_i, aug2_t, aug3_s, s_app, app1_s, app2_s, s_ret, ret1_s, ret1_ite, s_if, if1_s, s_for, s_forT, for1_s, turnF_s, turnT_s, s_brk, s_cnt, s_pass, frzW_rng, frzW_ex,
 d_ev, d_nx, d_rt, d_ite, and_pure, or_pure, tru_bl, tru_int, tru_non, tru_str, tru_lst, tru_tup, pr_some, pr_gd, prB_some, prT_some, iniE, lawE, List.getElem?_cons_zero, List.getElem?_cons_succ, List.getElem?_nil, List.set_cons_zero, List.set_cons_succ, List.set_nil, List.map_cons, List.map_nil, List.nil_append, List.cons_append, List.append_nil, List.length_cons, List.length_nil, Nat.zero_le, Nat.reduceLeDiff, Nat.reduceAdd, List.replicate, ite_true, ite_false, if_true, if_false, Bool.false_eq_true, reduceIte, reduceCtorEq, ite_self, Bool.true_and, Bool.and_true, Bool.not_true, Bool.not_false, Bool.not_not, Option.map_some, Option.map_none, Pu.sizeLine_eq, cmp_ge, cmp_gt, cmp_le, cmp_lt, eq_i, eq_s, eq_b, ne_i, ne_s, ne_b, in_c, nin_c, op_add_i, op_add_s, op_add_t, op_add_l, op_sub_i, op_mul_r, op_mul_l, op_div_i, op_mod_i, bi_int, bi_intb, len_s, len_l, len_t, bi_list_t, bi_list_l, bi_tuple_t, bi_tuple_l, bi_min2, bi_max2, rev_s, rev_l, rev_t, sub_l, sub_t, sub_s, sl_l, sl_t, sl_s, at0, at1, at2, at3, lct_no, lct_yes, lctP_nm, l2T_nm, l2t1_s, ix_nm, ix_tp, lct1_s, lct2_s, lct3_s, gd_pos, law_kind_ev, isTy, bne_self_eq_false, beq_self_eq_true, eq_non]
theorem law_equal_ok {d : D} {pl : Pool} (h : depD d < 40) (hs : szD 10000000 d) : F__law_equal [d, d] pl = some (.bl true, pl) := law_equal_at 40 d pl h hs
theorem law_equal_i {i : Int} {pl : Pool} (h : -10000000 ≤ i ∧ i ≤ 10000000) : F__law_equal [.int i, .int i] pl = some (.bl true, pl) := law_equal_ok (by simp [depD]) (by rw [szD]; exact h)
theorem law_equal_s {w : List Nat} {pl : Pool} (h : w.length ≤ 10000000) (hc : ∀ c ∈ w, c < 1114112) : F__law_equal [.str w, .str w] pl = some (.bl true, pl) := law_equal_ok (by simp [depD]) (by rw [szD]; exact ⟨h, hc⟩)
theorem law_equal_ss {l : List (List Nat)} {pl : Pool} (hl : l.length ≤ 10000000) (h : ∀ w ∈ l, w.length ≤ 10000000 ∧ ∀ c ∈ w, c < 1114112) : F__law_equal [.lst (l.map .str), .lst (l.map .str)] pl = some (.bl true, pl) := by
  refine law_equal_ok ?_ ?_
  · rw [depD]
    have := depDs_str l
    omega
  · rw [szD, szDs_iff]
    refine ⟨by simpa using hl, fun x hx => ?_⟩
    obtain ⟨w, hw, rfl⟩ := List.mem_map.mp hx
    rw [szD]
    exact h w hw

def lb__law_unlike_0 : Sts := (.cons (.ite (.cmp .NotIn (.var 2) (.var 1)) (.cons (.app 1 (.var 2)) .nil) .nil) .nil)
def b__law_unlike : Sts := (.cons (.asg true 1 (.lst .nil)) (.cons (.for_ 2 (.ex (.bi .sorted (.cons (.var 0) .nil))) lb__law_unlike_0) (.cons (.ret (.var 1)) .nil)))
def F__law_unlike : Fnc := fun ds pl => evD fuel b__law_unlike 3 false ds pl
def unl (acc : List (List Nat)) (x : List Nat) : List (List Nat) := if x ∈ acc then acc else acc ++ [x]
theorem unl_ok : ∀ (l acc : List (List Nat)), l.Pairwise (· ≤ ·) → acc.Pairwise (· < ·) → (∀ a ∈ acc, ∀ x ∈ l, a ≤ x) → (l.foldl unl acc).Pairwise (· < ·) ∧ ∀ x, x ∈ l.foldl unl acc ↔ x ∈ acc ∨ x ∈ l
  | [], acc, _, h, _ => ⟨h, fun x => by simp⟩
  | y :: l, acc, h1, h2, h3 => by
    have p := List.pairwise_cons.mp h1
    rw [List.foldl_cons]
    by_cases hy : y ∈ acc
    · have e : unl acc y = acc := if_pos hy
      rw [e]
      obtain ⟨q1, q2⟩ := unl_ok l acc p.2 h2 fun a ha x hx => h3 a ha x (List.mem_cons_of_mem _ hx)
      refine ⟨q1, fun x => ?_⟩
      rw [q2, List.mem_cons]
      constructor
      · rintro (h | h)
        · exact .inl h
        · exact .inr (.inr h)
      · rintro (h | rfl | h)
        · exact .inl h
        · exact .inl hy
        · exact .inr h
    · have e : unl acc y = acc ++ [y] := if_neg hy
      rw [e]
      obtain ⟨q1, q2⟩ := unl_ok l (acc ++ [y]) p.2 (List.pairwise_append.mpr ⟨h2, List.pairwise_singleton _ _, fun a ha b hb => by
        cases List.mem_singleton.mp hb
        exact lt_of_le_ne (h3 a ha y List.mem_cons_self) fun z => hy (z ▸ ha)⟩) (fun a ha x hx => by
        rcases List.mem_append.mp ha with ha | ha
        · exact h3 a ha x (List.mem_cons_of_mem _ hx)
        · cases List.mem_singleton.mp ha
          exact p.1 x hx)
      refine ⟨q1, fun x => ?_⟩
      rw [q2, List.mem_append, List.mem_singleton, List.mem_cons, or_assoc]
theorem unl_uq (l : List (List Nat)) : (srt l).foldl unl [] = uq l := by
  obtain ⟨h1, h2⟩ := unl_ok (srt l) [] srt_le List.Pairwise.nil (fun a ha => by cases ha)
  exact uq_of h1 fun x => by rw [h2, srt_mem]; simp
theorem unl_len (l : List (List Nat)) : ∀ acc : List (List Nat), (l.foldl unl acc).length ≤ acc.length + l.length := by
  induction l with
  | nil => intro acc; simp
  | cons x l ih =>
    intro acc
    rw [List.foldl_cons]
    have := ih (unl acc x)
    have h2 : (unl acc x).length ≤ acc.length + 1 := by unfold unl; split <;> simp
    simp only [List.length_cons]
    omega
theorem law_unlike_ev {zs : List (List Nat)} {pl : Pool} (h : zs.length ≤ 10000000) : F__law_unlike [.lst (zs.map .str)] pl = some (.lst ((uq zs).map .str), pl) := by
  unfold F__law_unlike b__law_unlike
  have turn : ∀ (acc : List (List Nat)) (x : List Nat) (s : Slot), acc.length < 16777216 → turnF fuel 2 lb__law_unlike_0 (.str x) [.val (.lst (zs.map .str)), .own (acc.map .str), s] pl = some (.nx, [.val (.lst (zs.map .str)), .own ((unl acc x).map .str), .val (.str x)], pl) := by
    intro acc x s ha
    unfold lb__law_unlike_0
    by_cases hx : x ∈ acc
    · have e : unl acc x = acc := if_pos hx
      simp only [gd_T, e_con, e_glob, e_var, rd_val, rd_own, e_bin, bin1_s, bin2_s, e_neg, neg1_s, e_cmp, cmp1_s, cmp2_s, e_chn, chn1_s, chn2_s, chn3_s, e_isK, isK1_s, e_bools, b_last, b_more, bolC_s, bolD_s, e_not, not1_s, e_ite, ite1_s, ite2_s, es_nil, es_cons, es1_s, es2_s, e_tup, e_lst, tup1_s, lst1_s,
 e_sub, sub1_s, sub2_s, o_none, o_some, o1_s, e_sl, sl1_s, sl2_s, sl3_s, e_rev, rev1_s, e_call, call1_s, e_callP, callP1_s, e_bi, bi1_s, e_me, me1_s, me2_s, e_isi, isi1_s, w_rngE, rng1_s, w_exE, wlk1_s, prL_some, walk_lst, walk_tup, walk_str, e_lc, lc1_s, lc2_s, e_lcP, lcP1_s, e_lc2, lcD1_s, e_lrng, lrng1_s, lrng2_s, e_sset, sset1_s, sset2_s, wipeE_nil, wipeE_cons, t_ev, tst1_s, ss_nil, ss_cons, seq_nx, seq_rt, seq_bk, seq_ct, seq_ite,
 s_asgV, s_asgO, asgV_s, asgO_s, settle_t, settle_c, frz_nil, frz_val, frz_none, frz_pool, frz_own, n_non, n_bl, n_int, n_str, n_lst, n_tup, n_nil, n_cons, s_unp, unp1_s, s_parE, par1_s, setAll_nil, setAll_cons, s_aug, aug1_s, aug2_i, aug2_t, aug3_s, s_app, app1_s, app2_s, s_ret, ret1_s, ret1_ite, s_if, if1_s, s_for, s_forT, for1_s, turnF_s, turnT_s, s_brk, s_cnt, s_pass, frzW_rng, frzW_ex,
 d_ev, d_nx, d_rt, d_ite, and_pure, or_pure, tru_bl, tru_int, tru_non, tru_str, tru_lst, tru_tup, pr_some, pr_gd, prB_some, prT_some, iniE, lawE, List.getElem?_cons_zero, List.getElem?_cons_succ, List.getElem?_nil, List.set_cons_zero, List.set_cons_succ, List.set_nil, List.map_cons, List.map_nil, List.nil_append, List.cons_append, List.append_nil, List.length_cons, List.length_nil, Nat.zero_le, Nat.reduceLeDiff, Nat.reduceAdd, List.replicate, ite_true, ite_false, if_true, if_false, Bool.false_eq_true, reduceIte, reduceCtorEq, ite_self, Bool.true_and, Bool.and_true, Bool.not_true, Bool.not_false, Bool.not_not, Option.map_some, Option.map_none, Pu.sizeLine_eq, cmp_ge, cmp_gt, cmp_le, cmp_lt, eq_i, eq_s, eq_b, ne_i, ne_s, ne_b, in_c, nin_c, op_add_i, op_add_s, op_add_t, op_add_l, op_sub_i, op_mul_r, op_mul_l, op_div_i, op_mod_i, bi_int, bi_intb, len_s, len_l, len_t, bi_list_t, bi_list_l, bi_tuple_t, bi_tuple_l, bi_min2, bi_max2, rev_s, rev_l, rev_t, sub_l, sub_t, sub_s, sl_l, sl_t, sl_s, at0, at1, at2, at3, lct_no, lct_yes, lctP_nm, l2T_nm, l2t1_s, ix_nm, ix_tp, lct1_s, lct2_s, lct3_s, gd_pos, nin_strs, hx, decide_true, e]
    · have e : unl acc x = acc ++ [x] := if_neg hx
      simp only [gd_T, e_con, e_glob, e_var, rd_val, rd_own, e_bin, bin1_s, bin2_s, e_neg, neg1_s, e_cmp, cmp1_s, cmp2_s, e_chn, chn1_s, chn2_s, chn3_s, e_isK, isK1_s, e_bools, b_last, b_more, bolC_s, bolD_s, e_not, not1_s, e_ite, ite1_s, ite2_s, es_nil, es_cons, es1_s, es2_s, e_tup, e_lst, tup1_s, lst1_s,
 e_sub, sub1_s, sub2_s, o_none, o_some, o1_s, e_sl, sl1_s, sl2_s, sl3_s, e_rev, rev1_s, e_call, call1_s, e_callP, callP1_s, e_bi, bi1_s, e_me, me1_s, me2_s, e_isi, isi1_s, w_rngE, rng1_s, w_exE, wlk1_s, prL_some, walk_lst, walk_tup, walk_str, e_lc, lc1_s, lc2_s, e_lcP, lcP1_s, e_lc2, lcD1_s, e_lrng, lrng1_s, lrng2_s, e_sset, sset1_s, sset2_s, wipeE_nil, wipeE_cons, t_ev, tst1_s, ss_nil, ss_cons, seq_nx, seq_rt, seq_bk, seq_ct, seq_ite,
 s_asgV, s_asgO, asgV_s, asgO_s, settle_t, settle_c, frz_nil, frz_val, frz_none, frz_pool, frz_own, n_non, n_bl, n_int, n_str, n_lst, n_tup, n_nil, n_cons, s_unp, unp1_s, s_parE, par1_s, setAll_nil, setAll_cons, s_aug, aug1_s, aug2_i, aug2_t, aug3_s, s_app, app1_s, app2_s, s_ret, ret1_s, ret1_ite, s_if, if1_s, s_for, s_forT, for1_s, turnF_s, turnT_s, s_brk, s_cnt, s_pass, frzW_rng, frzW_ex,
 d_ev, d_nx, d_rt, d_ite, and_pure, or_pure, tru_bl, tru_int, tru_non, tru_str, tru_lst, tru_tup, pr_some, pr_gd, prB_some, prT_some, iniE, lawE, List.getElem?_cons_zero, List.getElem?_cons_succ, List.getElem?_nil, List.set_cons_zero, List.set_cons_succ, List.set_nil, List.map_cons, List.map_nil, List.nil_append, List.cons_append, List.append_nil, List.length_cons, List.length_nil, Nat.zero_le, Nat.reduceLeDiff, Nat.reduceAdd, List.replicate, ite_true, ite_false, if_true, if_false, Bool.false_eq_true, reduceIte, reduceCtorEq, ite_self, Bool.true_and, Bool.and_true, Bool.not_true, Bool.not_false, Bool.not_not, Option.map_some, Option.map_none, Pu.sizeLine_eq, cmp_ge, cmp_gt, cmp_le, cmp_lt, eq_i, eq_s, eq_b, ne_i, ne_s, ne_b, in_c, nin_c, op_add_i, op_add_s, op_add_t, op_add_l, op_sub_i, op_mul_r, op_mul_l, op_div_i, op_mod_i, bi_int, bi_intb, len_s, len_l, len_t, bi_list_t, bi_list_l, bi_tuple_t, bi_tuple_l, bi_min2, bi_max2, rev_s, rev_l, rev_t, sub_l, sub_t, sub_s, sl_l, sl_t, sl_s, at0, at1, at2, at3, lct_no, lct_yes, lctP_nm, l2T_nm, l2t1_s, ix_nm, ix_tp, lct1_s, lct2_s, lct3_s, gd_pos, nin_strs, hx, decide_false, e, List.length_map, ha, List.map_append]
  have lp : ∀ (l acc : List (List Nat)) (s : Slot), acc.length + l.length ≤ 10000000 → ∃ s', forGo (turnF fuel 2 lb__law_unlike_0) (l.map .str) [.val (.lst (zs.map .str)), .own (acc.map .str), s] pl = some (.nx, [.val (.lst (zs.map .str)), .own ((l.foldl unl acc).map .str), s'], pl) := by
    intro l
    induction l with
    | nil => intro acc s _; exact ⟨s, rfl⟩
    | cons x l ih =>
      intro acc s hl
      simp only [List.length_cons] at hl
      have h2 : (unl acc x).length ≤ acc.length + 1 := by unfold unl; split <;> simp
      obtain ⟨s', e⟩ := ih (unl acc x) (.val (.str x)) (by omega)
      refine ⟨s', ?_⟩
      rw [List.map_cons]
      unfold forGo
      rw [turn acc x s (by omega)]
      exact e
  obtain ⟨s', e⟩ := lp (srt zs) [] .none (by rw [srt_len]; simpa using h)
  rw [unl_uq] at e
  simp only [List.map_nil] at e
  simp only [gd_T, e_con, e_glob, e_var, rd_val, rd_own, e_bin, bin1_s, bin2_s, e_neg, neg1_s, e_cmp, cmp1_s, cmp2_s, e_chn, chn1_s, chn2_s, chn3_s, e_isK, isK1_s, e_bools, b_last, b_more, bolC_s, bolD_s, e_not, not1_s, e_ite, ite1_s, ite2_s, es_nil, es_cons, es1_s, es2_s, e_tup, e_lst, tup1_s, lst1_s,
 e_sub, sub1_s, sub2_s, o_none, o_some, o1_s, e_sl, sl1_s, sl2_s, sl3_s, e_rev, rev1_s, e_call, call1_s, e_callP, callP1_s, e_bi, bi1_s, e_me, me1_s, me2_s, e_isi, isi1_s, w_rngE, rng1_s, w_exE, wlk1_s, prL_some, walk_lst, walk_tup, walk_str, e_lc, lc1_s, lc2_s, e_lcP, lcP1_s, e_lc2, lcD1_s, e_lrng, lrng1_s, lrng2_s, e_sset, sset1_s, sset2_s, wipeE_nil, wipeE_cons, t_ev, tst1_s, ss_nil, ss_cons, seq_nx, seq_rt, seq_bk, seq_ct, seq_ite,
 s_asgV, s_asgO, asgV_s, asgO_s, settle_t, settle_c, frz_nil, frz_val, frz_none, frz_pool, frz_own, n_non, n_bl, n_int, n_str, n_lst, n_tup, n_nil, n_cons, s_unp, unp1_s, s_parE, par1_s, setAll_nil, setAll_cons, s_aug, aug1_s, aug2_i, aug2_t, aug3_s, s_app, app1_s, app2_s, s_ret, ret1_s, ret1_ite, s_if, if1_s, s_for, s_forT, for1_s, turnF_s, turnT_s, s_brk, s_cnt, s_pass, frzW_rng, frzW_ex,
 d_ev, d_nx, d_rt, d_ite, and_pure, or_pure, tru_bl, tru_int, tru_non, tru_str, tru_lst, tru_tup, pr_some, pr_gd, prB_some, prT_some, iniE, lawE, List.getElem?_cons_zero, List.getElem?_cons_succ, List.getElem?_nil, List.set_cons_zero, List.set_cons_succ, List.set_nil, List.map_cons, List.map_nil, List.nil_append, List.cons_append, List.append_nil, List.length_cons, List.length_nil, Nat.zero_le, Nat.reduceLeDiff, Nat.reduceAdd, List.replicate, ite_true, ite_false, if_true, if_false, Bool.false_eq_true, reduceIte, reduceCtorEq, ite_self, Bool.true_and, Bool.and_true, Bool.not_true, Bool.not_false, Bool.not_not, Option.map_some, Option.map_none, Pu.sizeLine_eq, cmp_ge, cmp_gt, cmp_le, cmp_lt, eq_i, eq_s, eq_b, ne_i, ne_s, ne_b, in_c, nin_c, op_add_i, op_add_s, op_add_t, op_add_l, op_sub_i, op_mul_r, op_mul_l, op_div_i, op_mod_i, bi_int, bi_intb, len_s, len_l, len_t, bi_list_t, bi_list_l, bi_tuple_t, bi_tuple_l, bi_min2, bi_max2, rev_s, rev_l, rev_t, sub_l, sub_t, sub_s, sl_l, sl_t, sl_s, at0, at1, at2, at3, lct_no, lct_yes, lctP_nm, l2T_nm, l2t1_s, ix_nm, ix_tp, lct1_s, lct2_s, lct3_s, gd_pos, sorted_str, show (varsE (Ex.bi Bi.sorted (Exs.cons (Ex.var 0) Exs.nil))).contains 1 = false from rfl, e]
end Pu
set_option Elab.async false
set_option linter.all false
set_option maxRecDepth 100000
set_option maxHeartbeats 1000000
namespace Pu
open PySem PySem.Spec PyProof.Rows L2 Wd

/-! ### numbers as they come -/
theorem modN {n k : Nat} : ((n : Int) % (k : Int)) = ((n % k : Nat) : Int) := rfl
theorem divN {n k : Nat} : ((n : Int) / (k : Int)) = ((n / k : Nat) : Int) := rfl
theorem addN {n k : Nat} : ((n : Int) + (k : Int)) = ((n + k : Nat) : Int) := rfl
theorem addN1 {n : Nat} : ((n : Int) + 1) = ((n + 1 : Nat) : Int) := rfl
theorem mulN {n k : Nat} : ((n : Int) * (k : Int)) = ((n * k : Nat) : Int) := rfl
theorem subN {n k : Nat} (h : k ≤ n) : ((n : Int) - (k : Int)) = ((n - k : Nat) : Int) := by omega
theorem subN1 {n : Nat} (h : 1 ≤ n) : ((n : Int) - 1) = ((n - 1 : Nat) : Int) := by omega
theorem beqN {n k : Nat} : ((n : Int) == (k : Int)) = decide (n = k) := by
  rw [Bool.eq_iff_iff]; simp; omega
theorem beqN0 {n : Nat} : ((n : Int) == 0) = decide (n = 0) := by
  rw [Bool.eq_iff_iff]; simp
theorem ltN {n k : Nat} : decide ((n : Int) < (k : Int)) = decide (n < k) := by
  rw [Bool.eq_iff_iff]; simp
theorem ltN0 {n : Nat} : decide ((0 : Int) < (n : Int)) = decide (0 < n) := by
  rw [Bool.eq_iff_iff]; simp
theorem beqL {a b : List Nat} : (a == b) = decide (a = b) := by
  rw [Bool.eq_iff_iff]; simp
theorem take_len {α : Type} {l : List α} {k : Nat} : (l.take k).length ≤ l.length := by rw [List.length_take]; omega
theorem mulS {a : List Nat} {b : Nat} (h : b < 4000) (h2 : a.length ≤ 4000) : opBin .Mult (.str a) (.int (b : Nat)) = some (.str (pw b a)) := by
  have hle : a.length * b ≤ 16777216 := by
    calc a.length * b ≤ 4000 * 4000 := Nat.mul_le_mul h2 (by omega)
      _ ≤ 16777216 := by decide
  rw [op_mul_s, gd_pos ⟨⟨by omega, by omega⟩, by rw [Int.toNat_natCast]; exact hle⟩, Int.toNat_natCast]
  rfl
theorem max1 {n : Nat} : (if (n : Int) > 1 then (n : Int) else 1) = ((max 1 n : Nat) : Int) := by
  split <;> omega

/-! ### roots -/
def fitB (w : List Nat) (p : Nat) : Bool := decide (w.length % p = 0) && decide (pw (w.length / p) (w.take p) = w)
def rd (w : List Nat) : Nat := ((List.range' 1 w.length).find? (fitB w)).getD 0
def rt (w : List Nat) : List Nat := w.take (rd w)
theorem fitB_iff {w : List Nat} {p : Nat} : fitB w p = true ↔ p ∣ w.length ∧ PerL w p := by
  unfold fitB
  rw [Bool.and_eq_true, decide_eq_true_eq, decide_eq_true_eq]
  constructor
  · rintro ⟨h1, h2⟩
    have := Nat.dvd_of_mod_eq_zero h1
    exact ⟨this, (pw_iff this).mp h2⟩
  · rintro ⟨h1, h2⟩
    exact ⟨Nat.mod_eq_zero_of_dvd h1, (pw_iff h1).mpr h2⟩
theorem per_full {w : List Nat} : PerL w w.length := fun i hi => by omega
theorem rd_some {w : List Nat} (h : w ≠ []) : (List.range' 1 w.length).find? (fitB w) = some (rd w) := by
  have hl : 0 < w.length := List.length_pos_iff.mpr h
  unfold rd
  cases e : (List.range' 1 w.length).find? (fitB w) with
  | some x => rfl
  | none =>
    rw [List.find?_eq_none] at e
    exact absurd (fitB_iff.mpr ⟨Nat.dvd_refl _, per_full⟩) (e w.length (by rw [List.mem_range'_1]; omega))
structure RdS (w : List Nat) : Prop where
  pos : 0 < rd w
  le : rd w ≤ w.length
  dvd : rd w ∣ w.length
  per : PerL w (rd w)
  least : ∀ p, 0 < p → p ∣ w.length → PerL w p → rd w ≤ p
theorem rd_spec {w : List Nat} (h : w ≠ []) : RdS w := by
  have e := rd_some h
  rw [List.find?_range'_eq_some, List.mem_range'_1] at e
  obtain ⟨h1, h2, h3⟩ := e
  have h4 := fitB_iff.mp h1
  refine ⟨by omega, by omega, h4.1, h4.2, fun p hp hd hpp => Nat.le_of_not_lt fun hlt => ?_⟩
  have := h3 p hp hlt
  rw [fitB_iff.mpr ⟨hd, hpp⟩] at this
  cases this
theorem rd_dvd {w : List Nat} (h : w ≠ []) {s : Nat} (hs : Cyc (ev w) s) : rd w ∣ s := by
  have S := rd_spec h
  have c1 : Cyc (ev w) (rd w) := (cyc_per S.dvd).mpr S.per
  have c2 := Cyc.gcd c1 hs
  have hd : Nat.gcd (rd w) s ∣ w.length := Nat.dvd_trans (Nat.gcd_dvd_left _ _) S.dvd
  have h3 := S.least _ (Nat.gcd_pos_of_pos_left _ S.pos) hd ((cyc_per hd).mp c2)
  have h4 : Nat.gcd (rd w) s = rd w := Nat.le_antisymm (Nat.le_of_dvd S.pos (Nat.gcd_dvd_left _ _)) h3
  rw [← h4]
  exact Nat.gcd_dvd_right _ _
theorem rt_len {w : List Nat} (h : w ≠ []) : (rt w).length = rd w := by
  have := (rd_spec h).le
  unfold rt
  rw [List.length_take]
  omega
theorem rt_pw {w : List Nat} (h : w ≠ []) : pw (w.length / rd w) (rt w) = w := (pw_iff (rd_spec h).dvd).mpr (rd_spec h).per
theorem rt_self {w : List Nat} (h : w ≠ []) : rt w = w ↔ rd w = w.length := by
  constructor
  · intro e
    rw [← rt_len h, e]
  · intro e
    unfold rt
    rw [e, List.take_length]

def lb_root_0 : Sts := (.cons (.ite (.bools true (.cons (.cmp .Eq (.bin .Mod (.bi .len (.cons (.var 0) .nil)) (.var 1)) (.con (.int 0))) (.cons (.cmp .Eq (.bin .Mult (.sl (.var 0) .no (.yes (.var 1))) (.bin .FloorDiv (.bi .len (.cons (.var 0) .nil)) (.var 1))) (.var 0)) .nil))) (.cons (.ret (.sl (.var 0) .no (.yes (.var 1)))) .nil) .nil) .nil)
def b_root : Sts := (.cons (.for_ 1 (.rng (.cons (.con (.int 1)) (.cons (.bin .Add (.bi .len (.cons (.var 0) .nil)) (.con (.int 1))) .nil))) lb_root_0) (.cons (.ret (.con .non)) .nil))
def F_root : Fnc := fun ds pl => evD fuel b_root 2 false ds pl
def b_exponent : Sts := (.cons (.ret (.bin .FloorDiv (.bi .len (.cons (.var 0) .nil)) (.bi .len (.cons (.call "root" 1 F_root (.cons (.var 0) .nil)) .nil)))) .nil)
def F_exponent : Fnc := fun ds pl => evD fuel b_exponent 1 false ds pl
def b_is_primitive : Sts := (.cons (.ret (.bools true (.cons (.cmp .Gt (.bi .len (.cons (.var 0) .nil)) (.con (.int 0))) (.cons (.cmp .Eq (.call "root" 1 F_root (.cons (.var 0) .nil)) (.var 0)) .nil)))) .nil)
def F_is_primitive : Fnc := fun ds pl => evD fuel b_is_primitive 1 false ds pl
section
variable {w : List Nat} {pl : Pool}
theorem root_turn (hw : w.length ≤ 1000) {k : Nat} (h1 : 1 ≤ k) (h2 : k < 1 + w.length) (s : Slot) : turnF fuel 1 lb_root_0 (.int (k : Nat)) [.val (.str w), s] pl = if fitB w k = true then some (.rt (.str (w.take k)), [.val (.str w), .val (.int (k : Nat))], pl) else some (.nx, [.val (.str w), .val (.int (k : Nat))], pl) := by
  have hd : w.length / k < 4000 := Nat.lt_of_le_of_lt (Nat.div_le_self _ _) (by omega)
  have ht : (w.take k).length ≤ 4000 := Nat.le_trans take_len (by omega)
  unfold lb_root_0 fitB
  by_cases hm : w.length % k = 0
  · by_cases he : pw (w.length / k) (w.take k) = w
    · simp (disch := omega) only [gd_T, e_con, e_glob, e_var, rd_val, rd_own, e_bin, bin1_s, bin2_s, e_neg, neg1_s, e_cmp, cmp1_s, cmp2_s, e_chn, chn1_s, chn2_s, chn3_s, e_isK, isK1_s, e_bools, b_last, b_more, bolC_s, bolD_s, e_not, not1_s, e_ite, ite1_s, ite2_s, es_nil, es_cons, es1_s, es2_s, e_tup, e_lst, tup1_s, lst1_s,
 e_sub, sub1_s, sub2_s, o_none, o_some, o1_s, e_sl, sl1_s, sl2_s, sl3_s, e_rev, rev1_s, e_call, call1_s, e_callP, callP1_s, e_bi, bi1_s, e_me, me1_s, me2_s, e_isi, isi1_s, w_rngE, rng1_s, w_exE, wlk1_s, prL_some, walk_lst, walk_tup, walk_str, e_lc, lc1_s, lc2_s, e_lcP, lcP1_s, e_lc2, lcD1_s, e_lrng, lrng1_s, lrng2_s, e_sset, sset1_s, sset2_s, wipeE_nil, wipeE_cons, t_ev, tst1_s, ss_nil, ss_cons, seq_nx, seq_rt, seq_bk, seq_ct, seq_ite,
 s_asgV, s_asgO, asgV_s, asgO_s, settle_t, settle_c, frz_nil, frz_val, frz_none, frz_pool, frz_own, n_non, n_bl, n_int, n_str, n_lst, n_tup, n_nil, n_cons, s_unp, unp1_s, s_parE, par1_s, setAll_nil, setAll_cons, s_aug, aug1_s, aug2_i, aug2_t, aug3_s, s_app, app1_s, app2_s, s_ret, ret1_s, ret1_ite, s_if, if1_s, s_for, s_forT, for1_s, turnF_s, turnT_s, s_brk, s_cnt, s_pass, frzW_rng, frzW_ex,
 d_ev, d_nx, d_rt, d_ite, and_pure, or_pure, tru_bl, tru_int, tru_non, tru_str, tru_lst, tru_tup, pr_some, pr_gd, prB_some, prT_some, iniE, lawE, List.getElem?_cons_zero, List.getElem?_cons_succ, List.getElem?_nil, List.set_cons_zero, List.set_cons_succ, List.set_nil, List.map_cons, List.map_nil, List.nil_append, List.cons_append, List.append_nil, List.length_cons, List.length_nil, Nat.zero_le, Nat.reduceLeDiff, Nat.reduceAdd, List.replicate, ite_true, ite_false, if_true, if_false, Bool.false_eq_true, reduceIte, reduceCtorEq, ite_self, Bool.true_and, Bool.and_true, Bool.not_true, Bool.not_false, Bool.not_not, Option.map_some, Option.map_none, Pu.sizeLine_eq, cmp_ge, cmp_gt, cmp_le, cmp_lt, eq_i, eq_s, eq_b, ne_i, ne_s, ne_b, in_c, nin_c, op_add_i, op_add_s, op_add_t, op_add_l, op_sub_i, op_mul_r, op_mul_l, op_div_i, op_mod_i, bi_int, bi_intb, len_s, len_l, len_t, bi_list_t, bi_list_l, bi_tuple_t, bi_tuple_l, bi_min2, bi_max2, rev_s, rev_l, rev_t, sub_l, sub_t, sub_s, sl_l, sl_t, sl_s, at0, at1, at2, at3, lct_no, lct_yes, lctP_nm, l2T_nm, l2t1_s, ix_nm, ix_tp, lct1_s, lct2_s, lct3_s, gd_pos, modN, divN, beqN0, hm, decide_true, cut_hi, mulS, beqL, he]
    · simp (disch := omega) only [gd_T, e_con, e_glob, e_var, rd_val, rd_own, e_bin, bin1_s, bin2_s, e_neg, neg1_s, e_cmp, cmp1_s, cmp2_s, e_chn, chn1_s, chn2_s, chn3_s, e_isK, isK1_s, e_bools, b_last, b_more, bolC_s, bolD_s, e_not, not1_s, e_ite, ite1_s, ite2_s, es_nil, es_cons, es1_s, es2_s, e_tup, e_lst, tup1_s, lst1_s,
 e_sub, sub1_s, sub2_s, o_none, o_some, o1_s, e_sl, sl1_s, sl2_s, sl3_s, e_rev, rev1_s, e_call, call1_s, e_callP, callP1_s, e_bi, bi1_s, e_me, me1_s, me2_s, e_isi, isi1_s, w_rngE, rng1_s, w_exE, wlk1_s, prL_some, walk_lst, walk_tup, walk_str, e_lc, lc1_s, lc2_s, e_lcP, lcP1_s, e_lc2, lcD1_s, e_lrng, lrng1_s, lrng2_s, e_sset, sset1_s, sset2_s, wipeE_nil, wipeE_cons, t_ev, tst1_s, ss_nil, ss_cons, seq_nx, seq_rt, seq_bk, seq_ct, seq_ite,
 s_asgV, s_asgO, asgV_s, asgO_s, settle_t, settle_c, frz_nil, frz_val, frz_none, frz_pool, frz_own, n_non, n_bl, n_int, n_str, n_lst, n_tup, n_nil, n_cons, s_unp, unp1_s, s_parE, par1_s, setAll_nil, setAll_cons, s_aug, aug1_s, aug2_i, aug2_t, aug3_s, s_app, app1_s, app2_s, s_ret, ret1_s, ret1_ite, s_if, if1_s, s_for, s_forT, for1_s, turnF_s, turnT_s, s_brk, s_cnt, s_pass, frzW_rng, frzW_ex,
 d_ev, d_nx, d_rt, d_ite, and_pure, or_pure, tru_bl, tru_int, tru_non, tru_str, tru_lst, tru_tup, pr_some, pr_gd, prB_some, prT_some, iniE, lawE, List.getElem?_cons_zero, List.getElem?_cons_succ, List.getElem?_nil, List.set_cons_zero, List.set_cons_succ, List.set_nil, List.map_cons, List.map_nil, List.nil_append, List.cons_append, List.append_nil, List.length_cons, List.length_nil, Nat.zero_le, Nat.reduceLeDiff, Nat.reduceAdd, List.replicate, ite_true, ite_false, if_true, if_false, Bool.false_eq_true, reduceIte, reduceCtorEq, ite_self, Bool.true_and, Bool.and_true, Bool.not_true, Bool.not_false, Bool.not_not, Option.map_some, Option.map_none, Pu.sizeLine_eq, cmp_ge, cmp_gt, cmp_le, cmp_lt, eq_i, eq_s, eq_b, ne_i, ne_s, ne_b, in_c, nin_c, op_add_i, op_add_s, op_add_t, op_add_l, op_sub_i, op_mul_r, op_mul_l, op_div_i, op_mod_i, bi_int, bi_intb, len_s, len_l, len_t, bi_list_t, bi_list_l, bi_tuple_t, bi_tuple_l, bi_min2, bi_max2, rev_s, rev_l, rev_t, sub_l, sub_t, sub_s, sl_l, sl_t, sl_s, at0, at1, at2, at3, lct_no, lct_yes, lctP_nm, l2T_nm, l2t1_s, ix_nm, ix_tp, lct1_s, lct2_s, lct3_s, gd_pos, modN, divN, beqN0, hm, decide_true, cut_hi, mulS, beqL, he, decide_false]
  · simp (disch := omega) only [gd_T, e_con, e_glob, e_var, rd_val, rd_own, e_bin, bin1_s, bin2_s, e_neg, neg1_s, e_cmp, cmp1_s, cmp2_s, e_chn, chn1_s, chn2_s, chn3_s, e_isK, isK1_s, e_bools, b_last, b_more, bolC_s, bolD_s, e_not, not1_s, e_ite, ite1_s, ite2_s, es_nil, es_cons, es1_s, es2_s, e_tup, e_lst, tup1_s, lst1_s,
 e_sub, sub1_s, sub2_s, o_none, o_some, o1_s, e_sl, sl1_s, sl2_s, sl3_s, e_rev, rev1_s, e_call, call1_s, e_callP, callP1_s, e_bi, bi1_s, e_me, me1_s, me2_s, e_isi, isi1_s, w_rngE, rng1_s, w_exE, wlk1_s, prL_some, walk_lst, walk_tup, walk_str, e_lc, lc1_s, lc2_s, e_lcP, lcP1_s, e_lc2, lcD1_s, e_lrng, lrng1_s, lrng2_s, e_sset, sset1_s, sset2_s, wipeE_nil, wipeE_cons, t_ev, tst1_s, ss_nil, ss_cons, seq_nx, seq_rt, seq_bk, seq_ct, seq_ite,
 s_asgV, s_asgO, asgV_s, asgO_s, settle_t, settle_c, frz_nil, frz_val, frz_none, frz_pool, frz_own, n_non, n_bl, n_int, n_str, n_lst, n_tup, n_nil, n_cons, s_unp, unp1_s, s_parE, par1_s, setAll_nil, setAll_cons, s_aug, aug1_s, aug2_i, aug2_t, aug3_s, s_app, app1_s, app2_s, s_ret, ret1_s, ret1_ite, s_if, if1_s, s_for, s_forT, for1_s, turnF_s, turnT_s, s_brk, s_cnt, s_pass, frzW_rng, frzW_ex,
 d_ev, d_nx, d_rt, d_ite, and_pure, or_pure, tru_bl, tru_int, tru_non, tru_str, tru_lst, tru_tup, pr_some, pr_gd, prB_some, prT_some, iniE, lawE, List.getElem?_cons_zero, List.getElem?_cons_succ, List.getElem?_nil, List.set_cons_zero, List.set_cons_succ, List.set_nil, List.map_cons, List.map_nil, List.nil_append, List.cons_append, List.append_nil, List.length_cons, List.length_nil, Nat.zero_le, Nat.reduceLeDiff, Nat.reduceAdd, List.replicate, ite_true, ite_false, if_true, if_false, Bool.false_eq_true, reduceIte, reduceCtorEq, ite_self, Bool.true_and, Bool.and_true, Bool.not_true, Bool.not_false, Bool.not_not, Option.map_some, Option.map_none, Pu.sizeLine_eq, cmp_ge, cmp_gt, cmp_le, cmp_lt, eq_i, eq_s, eq_b, ne_i, ne_s, ne_b, in_c, nin_c, op_add_i, op_add_s, op_add_t, op_add_l, op_sub_i, op_mul_r, op_mul_l, op_div_i, op_mod_i, bi_int, bi_intb, len_s, len_l, len_t, bi_list_t, bi_list_l, bi_tuple_t, bi_tuple_l, bi_min2, bi_max2, rev_s, rev_l, rev_t, sub_l, sub_t, sub_s, sl_l, sl_t, sl_s, at0, at1, at2, at3, lct_no, lct_yes, lctP_nm, l2T_nm, l2t1_s, ix_nm, ix_tp, lct1_s, lct2_s, lct3_s, gd_pos, modN, divN, beqN0, hm, decide_false, Bool.false_and]
theorem root_ev (h : w ≠ []) (hw : w.length ≤ 1000) : F_root [.str w] pl = some (.str (rt w), pl) := by
  unfold F_root b_root
  obtain ⟨s', e⟩ := for_find (turn := turnF fuel 1 lb_root_0) (E := fun s => [.val (.str w), s]) (p := fun x => match x with | .int i => fitB w i.toNat | _ => false) (g := fun x => match x with | .int i => .str (w.take i.toNat) | _ => .non) (pl := pl) (l := rngA 1 w.length) (s := .none) (fun x hx s => by
    obtain ⟨k, hk, rfl⟩ := List.mem_map.mp hx
    rw [List.mem_range'_1] at hk
    exact root_turn hw hk.1 hk.2 s)
  have e2 : (rngA 1 w.length).find? (fun x => match x with | .int i => fitB w i.toNat | _ => false) = some (.int (rd w : Nat)) := by
    unfold rngA
    rw [List.find?_map]
    show Option.map _ ((List.range' 1 w.length).find? (fitB w)) = _
    rw [rd_some h]
    rfl
  rw [e2] at e
  have e : forGo (turnF fuel 1 lb_root_0) (rngA 1 w.length) [.val (.str w), .none] pl = some (.rt (.str (rt w)), [.val (.str w), .val (.int (rd w : Nat))], pl) := e
  simp (disch := omega) only [gd_T, e_con, e_glob, e_var, rd_val, rd_own, e_bin, bin1_s, bin2_s, e_neg, neg1_s, e_cmp, cmp1_s, cmp2_s, e_chn, chn1_s, chn2_s, chn3_s, e_isK, isK1_s, e_bools, b_last, b_more, bolC_s, bolD_s, e_not, not1_s, e_ite, ite1_s, ite2_s, es_nil, es_cons, es1_s, es2_s, e_tup, e_lst, tup1_s, lst1_s,
 e_sub, sub1_s, sub2_s, o_none, o_some, o1_s, e_sl, sl1_s, sl2_s, sl3_s, e_rev, rev1_s, e_call, call1_s, e_callP, callP1_s, e_bi, bi1_s, e_me, me1_s, me2_s, e_isi, isi1_s, w_rngE, rng1_s, w_exE, wlk1_s, prL_some, walk_lst, walk_tup, walk_str, e_lc, lc1_s, lc2_s, e_lcP, lcP1_s, e_lc2, lcD1_s, e_lrng, lrng1_s, lrng2_s, e_sset, sset1_s, sset2_s, wipeE_nil, wipeE_cons, t_ev, tst1_s, ss_nil, ss_cons, seq_nx, seq_rt, seq_bk, seq_ct, seq_ite,
 s_asgV, s_asgO, asgV_s, asgO_s, settle_t, settle_c, frz_nil, frz_val, frz_none, frz_pool, frz_own, n_non, n_bl, n_int, n_str, n_lst, n_tup, n_nil, n_cons, s_unp, unp1_s, s_parE, par1_s, setAll_nil, setAll_cons, s_aug, aug1_s, aug2_i, aug2_t, aug3_s, s_app, app1_s, app2_s, s_ret, ret1_s, ret1_ite, s_if, if1_s, s_for, s_forT, for1_s, turnF_s, turnT_s, s_brk, s_cnt, s_pass, frzW_rng, frzW_ex,
 d_ev, d_nx, d_rt, d_ite, and_pure, or_pure, tru_bl, tru_int, tru_non, tru_str, tru_lst, tru_tup, pr_some, pr_gd, prB_some, prT_some, iniE, lawE, List.getElem?_cons_zero, List.getElem?_cons_succ, List.getElem?_nil, List.set_cons_zero, List.set_cons_succ, List.set_nil, List.map_cons, List.map_nil, List.nil_append, List.cons_append, List.append_nil, List.length_cons, List.length_nil, Nat.zero_le, Nat.reduceLeDiff, Nat.reduceAdd, List.replicate, ite_true, ite_false, if_true, if_false, Bool.false_eq_true, reduceIte, reduceCtorEq, ite_self, Bool.true_and, Bool.and_true, Bool.not_true, Bool.not_false, Bool.not_not, Option.map_some, Option.map_none, Pu.sizeLine_eq, cmp_ge, cmp_gt, cmp_le, cmp_lt, eq_i, eq_s, eq_b, ne_i, ne_s, ne_b, in_c, nin_c, op_add_i, op_add_s, op_add_t, op_add_l, op_sub_i, op_mul_r, op_mul_l, op_div_i, op_mod_i, bi_int, bi_intb, len_s, len_l, len_t, bi_list_t, bi_list_l, bi_tuple_t, bi_tuple_l, bi_min2, bi_max2, rev_s, rev_l, rev_t, sub_l, sub_t, sub_s, sl_l, sl_t, sl_s, at0, at1, at2, at3, lct_no, lct_yes, lctP_nm, l2T_nm, l2t1_s, ix_nm, ix_tp, lct1_s, lct2_s, lct3_s, gd_pos, addN1, rngL_2i (a := 1) (x := 1) (y := w.length + 1) rfl rfl (by decide) (by omega), Nat.add_sub_cancel, e]
theorem exponent_ev (h : w ≠ []) (hw : w.length ≤ 1000) : F_exponent [.str w] pl = some (.int ((w.length / rd w : Nat) : Int), pl) := by
  have S := rd_spec h
  have := S.pos
  have := S.le
  unfold F_exponent b_exponent
  simp (disch := omega) only [gd_T, e_con, e_glob, e_var, rd_val, rd_own, e_bin, bin1_s, bin2_s, e_neg, neg1_s, e_cmp, cmp1_s, cmp2_s, e_chn, chn1_s, chn2_s, chn3_s, e_isK, isK1_s, e_bools, b_last, b_more, bolC_s, bolD_s, e_not, not1_s, e_ite, ite1_s, ite2_s, es_nil, es_cons, es1_s, es2_s, e_tup, e_lst, tup1_s, lst1_s,
 e_sub, sub1_s, sub2_s, o_none, o_some, o1_s, e_sl, sl1_s, sl2_s, sl3_s, e_rev, rev1_s, e_call, call1_s, e_callP, callP1_s, e_bi, bi1_s, e_me, me1_s, me2_s, e_isi, isi1_s, w_rngE, rng1_s, w_exE, wlk1_s, prL_some, walk_lst, walk_tup, walk_str, e_lc, lc1_s, lc2_s, e_lcP, lcP1_s, e_lc2, lcD1_s, e_lrng, lrng1_s, lrng2_s, e_sset, sset1_s, sset2_s, wipeE_nil, wipeE_cons, t_ev, tst1_s, ss_nil, ss_cons, seq_nx, seq_rt, seq_bk, seq_ct, seq_ite,
 s_asgV, s_asgO, asgV_s, asgO_s, settle_t, settle_c, frz_nil, frz_val, frz_none, frz_pool, frz_own, n_non, n_bl, n_int, n_str, n_lst, n_tup, n_nil, n_cons, s_unp, unp1_s, s_parE, par1_s, setAll_nil, setAll_cons, s_aug, aug1_s, aug2_i, aug2_t, aug3_s, s_app, app1_s, app2_s, s_ret, ret1_s, ret1_ite, s_if, if1_s, s_for, s_forT, for1_s, turnF_s, turnT_s, s_brk, s_cnt, s_pass, frzW_rng, frzW_ex,
 d_ev, d_nx, d_rt, d_ite, and_pure, or_pure, tru_bl, tru_int, tru_non, tru_str, tru_lst, tru_tup, pr_some, pr_gd, prB_some, prT_some, iniE, lawE, List.getElem?_cons_zero, List.getElem?_cons_succ, List.getElem?_nil, List.set_cons_zero, List.set_cons_succ, List.set_nil, List.map_cons, List.map_nil, List.nil_append, List.cons_append, List.append_nil, List.length_cons, List.length_nil, Nat.zero_le, Nat.reduceLeDiff, Nat.reduceAdd, List.replicate, ite_true, ite_false, if_true, if_false, Bool.false_eq_true, reduceIte, reduceCtorEq, ite_self, Bool.true_and, Bool.and_true, Bool.not_true, Bool.not_false, Bool.not_not, Option.map_some, Option.map_none, Pu.sizeLine_eq, cmp_ge, cmp_gt, cmp_le, cmp_lt, eq_i, eq_s, eq_b, ne_i, ne_s, ne_b, in_c, nin_c, op_add_i, op_add_s, op_add_t, op_add_l, op_sub_i, op_mul_r, op_mul_l, op_div_i, op_mod_i, bi_int, bi_intb, len_s, len_l, len_t, bi_list_t, bi_list_l, bi_tuple_t, bi_tuple_l, bi_min2, bi_max2, rev_s, rev_l, rev_t, sub_l, sub_t, sub_s, sl_l, sl_t, sl_s, at0, at1, at2, at3, lct_no, lct_yes, lctP_nm, l2T_nm, l2t1_s, ix_nm, ix_tp, lct1_s, lct2_s, lct3_s, gd_pos, root_ev h hw, rt_len h, divN]
theorem is_primitive_ev (h : w ≠ []) (hw : w.length ≤ 1000) : F_is_primitive [.str w] pl = some (.bl (decide (rd w = w.length)), pl) := by
  have hl : 0 < w.length := List.length_pos_iff.mpr h
  unfold F_is_primitive b_is_primitive
  simp (disch := omega) only [gd_T, e_con, e_glob, e_var, rd_val, rd_own, e_bin, bin1_s, bin2_s, e_neg, neg1_s, e_cmp, cmp1_s, cmp2_s, e_chn, chn1_s, chn2_s, chn3_s, e_isK, isK1_s, e_bools, b_last, b_more, bolC_s, bolD_s, e_not, not1_s, e_ite, ite1_s, ite2_s, es_nil, es_cons, es1_s, es2_s, e_tup, e_lst, tup1_s, lst1_s,
 e_sub, sub1_s, sub2_s, o_none, o_some, o1_s, e_sl, sl1_s, sl2_s, sl3_s, e_rev, rev1_s, e_call, call1_s, e_callP, callP1_s, e_bi, bi1_s, e_me, me1_s, me2_s, e_isi, isi1_s, w_rngE, rng1_s, w_exE, wlk1_s, prL_some, walk_lst, walk_tup, walk_str, e_lc, lc1_s, lc2_s, e_lcP, lcP1_s, e_lc2, lcD1_s, e_lrng, lrng1_s, lrng2_s, e_sset, sset1_s, sset2_s, wipeE_nil, wipeE_cons, t_ev, tst1_s, ss_nil, ss_cons, seq_nx, seq_rt, seq_bk, seq_ct, seq_ite,
 s_asgV, s_asgO, asgV_s, asgO_s, settle_t, settle_c, frz_nil, frz_val, frz_none, frz_pool, frz_own, n_non, n_bl, n_int, n_str, n_lst, n_tup, n_nil, n_cons, s_unp, unp1_s, s_parE, par1_s, setAll_nil, setAll_cons, s_aug, aug1_s, aug2_i, aug2_t, aug3_s, s_app, app1_s, app2_s, s_ret, ret1_s, ret1_ite, s_if, if1_s, s_for, s_forT, for1_s, turnF_s, turnT_s, s_brk, s_cnt, s_pass, frzW_rng, frzW_ex,
 d_ev, d_nx, d_rt, d_ite, and_pure, or_pure, tru_bl, tru_int, tru_non, tru_str, tru_lst, tru_tup, pr_some, pr_gd, prB_some, prT_some, iniE, lawE, List.getElem?_cons_zero, List.getElem?_cons_succ, List.getElem?_nil, List.set_cons_zero, List.set_cons_succ, List.set_nil, List.map_cons, List.map_nil, List.nil_append, List.cons_append, List.append_nil, List.length_cons, List.length_nil, Nat.zero_le, Nat.reduceLeDiff, Nat.reduceAdd, List.replicate, ite_true, ite_false, if_true, if_false, Bool.false_eq_true, reduceIte, reduceCtorEq, ite_self, Bool.true_and, Bool.and_true, Bool.not_true, Bool.not_false, Bool.not_not, Option.map_some, Option.map_none, Pu.sizeLine_eq, cmp_ge, cmp_gt, cmp_le, cmp_lt, eq_i, eq_s, eq_b, ne_i, ne_s, ne_b, in_c, nin_c, op_add_i, op_add_s, op_add_t, op_add_l, op_sub_i, op_mul_r, op_mul_l, op_div_i, op_mod_i, bi_int, bi_intb, len_s, len_l, len_t, bi_list_t, bi_list_l, bi_tuple_t, bi_tuple_l, bi_min2, bi_max2, rev_s, rev_l, rev_t, sub_l, sub_t, sub_s, sl_l, sl_t, sl_s, at0, at1, at2, at3, lct_no, lct_yes, lctP_nm, l2T_nm, l2t1_s, ix_nm, ix_tp, lct1_s, lct2_s, lct3_s, gd_pos, root_ev h hw, ltN0, hl, decide_true, beqL, rt_self h]
theorem is_primitive_nil : F_is_primitive [.str []] pl = some (.bl false, pl) := by
  unfold F_is_primitive b_is_primitive
  simp +decide (disch := omega) only [gd_T, e_con, e_glob, e_var, rd_val, rd_own, e_bin, bin1_s, bin2_s, e_neg, neg1_s, e_cmp, cmp1_s, cmp2_s, e_chn, chn1_s, chn2_s, chn3_s, e_isK, isK1_s, e_bools, b_last, b_more, bolC_s, bolD_s, e_not, not1_s, e_ite, ite1_s, ite2_s, es_nil, es_cons, es1_s, es2_s, e_tup, e_lst, tup1_s, lst1_s,
 e_sub, sub1_s, sub2_s, o_none, o_some, o1_s, e_sl, sl1_s, sl2_s, sl3_s, e_rev, rev1_s, e_call, call1_s, e_callP, callP1_s, e_bi, bi1_s, e_me, me1_s, me2_s, e_isi, isi1_s, w_rngE, rng1_s, w_exE, wlk1_s, prL_some, walk_lst, walk_tup, walk_str, e_lc, lc1_s, lc2_s, e_lcP, lcP1_s, e_lc2, lcD1_s, e_lrng, lrng1_s, lrng2_s, e_sset, sset1_s, sset2_s, wipeE_nil, wipeE_cons, t_ev, tst1_s, ss_nil, ss_cons, seq_nx, seq_rt, seq_bk, seq_ct, seq_ite,
 s_asgV, s_asgO, asgV_s, asgO_s, settle_t, settle_c, frz_nil, frz_val, frz_none, frz_pool, frz_own, n_non, n_bl, n_int, n_str, n_lst, n_tup, n_nil, n_cons, s_unp, unp1_s, s_parE, par1_s, setAll_nil, setAll_cons, s_aug, aug1_s, aug2_i, aug2_t, aug3_s, s_app, app1_s, app2_s, s_ret, ret1_s, ret1_ite, s_if, if1_s, s_for, s_forT, for1_s, turnF_s, turnT_s, s_brk, s_cnt, s_pass, frzW_rng, frzW_ex,
 d_ev, d_nx, d_rt, d_ite, and_pure, or_pure, tru_bl, tru_int, tru_non, tru_str, tru_lst, tru_tup, pr_some, pr_gd, prB_some, prT_some, iniE, lawE, List.getElem?_cons_zero, List.getElem?_cons_succ, List.getElem?_nil, List.set_cons_zero, List.set_cons_succ, List.set_nil, List.map_cons, List.map_nil, List.nil_append, List.cons_append, List.append_nil, List.length_cons, List.length_nil, Nat.zero_le, Nat.reduceLeDiff, Nat.reduceAdd, List.replicate, ite_true, ite_false, if_true, if_false, Bool.false_eq_true, reduceIte, reduceCtorEq, ite_self, Bool.true_and, Bool.and_true, Bool.not_true, Bool.not_false, Bool.not_not, Option.map_some, Option.map_none, Pu.sizeLine_eq, cmp_ge, cmp_gt, cmp_le, cmp_lt, eq_i, eq_s, eq_b, ne_i, ne_s, ne_b, in_c, nin_c, op_add_i, op_add_s, op_add_t, op_add_l, op_sub_i, op_mul_r, op_mul_l, op_div_i, op_mod_i, bi_int, bi_intb, len_s, len_l, len_t, bi_list_t, bi_list_l, bi_tuple_t, bi_tuple_l, bi_min2, bi_max2, rev_s, rev_l, rev_t, sub_l, sub_t, sub_s, sl_l, sl_t, sl_s, at0, at1, at2, at3, lct_no, lct_yes, lctP_nm, l2T_nm, l2t1_s, ix_nm, ix_tp, lct1_s, lct2_s, lct3_s, gd_pos, decide_false]

/-! ### turns -/
def rotsW (w : List Nat) : List (List Nat) := (List.range' 0 (max 1 w.length)).map fun k => rot k w
def turnsW (w : List Nat) : List (List Nat) := uq (rotsW w)
def ltW (w : List Nat) : List Nat := (turnsW w).headD []
theorem rotsW_len : (rotsW w).length = max 1 w.length := by simp [rotsW]
theorem rotsW_mem {x : List Nat} : x ∈ rotsW w ↔ ∃ k, k < max 1 w.length ∧ rot k w = x := by
  unfold rotsW
  rw [List.mem_map]
  constructor
  · rintro ⟨k, hk, e⟩
    rw [List.mem_range'_1] at hk
    exact ⟨k, by omega, e⟩
  · rintro ⟨k, hk, e⟩
    exact ⟨k, by rw [List.mem_range'_1]; omega, e⟩
theorem turnsW_mem {x : List Nat} : x ∈ turnsW w ↔ ∃ k, k < max 1 w.length ∧ rot k w = x := by
  unfold turnsW
  rw [uq_mem, rotsW_mem]
theorem turnsW_ne : turnsW w ≠ [] := fun h => by
  have : rot 0 w ∈ turnsW w := turnsW_mem.mpr ⟨0, by omega, rfl⟩
  rw [h] at this
  cases this
theorem turnsW_cons : ∃ r, turnsW w = ltW w :: r := by
  unfold ltW
  cases h : turnsW w with
  | nil => exact absurd h turnsW_ne
  | cons a r => exact ⟨r, rfl⟩
theorem turnsW_len : (turnsW w).length ≤ max 1 w.length := by
  rw [← rotsW_len (w := w)]
  exact uq_len
theorem rot_zero {α : Type} {w : List α} : rot 0 w = w := by unfold rot; simp
theorem rot_full {α : Type} {w : List α} : rot w.length w = w := by unfold rot; simp
theorem rot_letters {k : Nat} {c : Nat} : c ∈ rot k w ↔ c ∈ w := by
  unfold rot
  rw [List.mem_append, or_comm, ← List.mem_append, List.take_append_drop]
def b_turns : Sts := (.cons (.ret (.sset (.lc 1 (.rng (.cons (.bi .max (.cons (.con (.int 1)) (.cons (.bi .len (.cons (.var 0) .nil)) .nil))) .nil)) .no (.bin .Add (.sl (.var 0) (.yes (.var 1)) .no) (.sl (.var 0) .no (.yes (.var 1))))))) .nil)
def F_turns : Fnc := fun ds pl => evD fuel b_turns 2 false ds pl
def b_least_turn : Sts := (.cons (.ret (.sub (.call "turns" 1 F_turns (.cons (.var 0) .nil)) (.con (.int 0)))) .nil)
def F_least_turn : Fnc := fun ds pl => evD fuel b_least_turn 1 false ds pl
theorem rots_go (hw : w.length ≤ 1000) (n : Nat) : lcGo (lcTurn 1 .no (.bin .Add (.sl (.var 0) (.yes (.var 1)) .no) (.sl (.var 0) .no (.yes (.var 1)))) [.val (.str w), .none]) (rngA 0 n) pl = some (((List.range' 0 n).map fun k => rot k w).map .str, pl) := by
  rw [List.map_map]
  refine lc_rngA fun k _ _ => ?_
  have h1 : (w.drop k).length + (w.take k).length ≤ 16777216 := by rw [List.length_drop, List.length_take]; omega
  simp (disch := omega) only [gd_T, e_con, e_glob, e_var, rd_val, rd_own, e_bin, bin1_s, bin2_s, e_neg, neg1_s, e_cmp, cmp1_s, cmp2_s, e_chn, chn1_s, chn2_s, chn3_s, e_isK, isK1_s, e_bools, b_last, b_more, bolC_s, bolD_s, e_not, not1_s, e_ite, ite1_s, ite2_s, es_nil, es_cons, es1_s, es2_s, e_tup, e_lst, tup1_s, lst1_s,
 e_sub, sub1_s, sub2_s, o_none, o_some, o1_s, e_sl, sl1_s, sl2_s, sl3_s, e_rev, rev1_s, e_call, call1_s, e_callP, callP1_s, e_bi, bi1_s, e_me, me1_s, me2_s, e_isi, isi1_s, w_rngE, rng1_s, w_exE, wlk1_s, prL_some, walk_lst, walk_tup, walk_str, e_lc, lc1_s, lc2_s, e_lcP, lcP1_s, e_lc2, lcD1_s, e_lrng, lrng1_s, lrng2_s, e_sset, sset1_s, sset2_s, wipeE_nil, wipeE_cons, t_ev, tst1_s, ss_nil, ss_cons, seq_nx, seq_rt, seq_bk, seq_ct, seq_ite,
 s_asgV, s_asgO, asgV_s, asgO_s, settle_t, settle_c, frz_nil, frz_val, frz_none, frz_pool, frz_own, n_non, n_bl, n_int, n_str, n_lst, n_tup, n_nil, n_cons, s_unp, unp1_s, s_parE, par1_s, setAll_nil, setAll_cons, s_aug, aug1_s, aug2_i, aug2_t, aug3_s, s_app, app1_s, app2_s, s_ret, ret1_s, ret1_ite, s_if, if1_s, s_for, s_forT, for1_s, turnF_s, turnT_s, s_brk, s_cnt, s_pass, frzW_rng, frzW_ex,
 d_ev, d_nx, d_rt, d_ite, and_pure, or_pure, tru_bl, tru_int, tru_non, tru_str, tru_lst, tru_tup, pr_some, pr_gd, prB_some, prT_some, iniE, lawE, List.getElem?_cons_zero, List.getElem?_cons_succ, List.getElem?_nil, List.set_cons_zero, List.set_cons_succ, List.set_nil, List.map_cons, List.map_nil, List.nil_append, List.cons_append, List.append_nil, List.length_cons, List.length_nil, Nat.zero_le, Nat.reduceLeDiff, Nat.reduceAdd, List.replicate, ite_true, ite_false, if_true, if_false, Bool.false_eq_true, reduceIte, reduceCtorEq, ite_self, Bool.true_and, Bool.and_true, Bool.not_true, Bool.not_false, Bool.not_not, Option.map_some, Option.map_none, Pu.sizeLine_eq, cmp_ge, cmp_gt, cmp_le, cmp_lt, eq_i, eq_s, eq_b, ne_i, ne_s, ne_b, in_c, nin_c, op_add_i, op_add_s, op_add_t, op_add_l, op_sub_i, op_mul_r, op_mul_l, op_div_i, op_mod_i, bi_int, bi_intb, len_s, len_l, len_t, bi_list_t, bi_list_l, bi_tuple_t, bi_tuple_l, bi_min2, bi_max2, rev_s, rev_l, rev_t, sub_l, sub_t, sub_s, sl_l, sl_t, sl_s, at0, at1, at2, at3, lct_no, lct_yes, lctP_nm, l2T_nm, l2t1_s, ix_nm, ix_tp, lct1_s, lct2_s, lct3_s, gd_pos, cut_lo, cut_hi, h1]
  rfl
theorem turns_ev (hw : w.length ≤ 1000) : F_turns [.str w] pl = some (.lst ((turnsW w).map .str), pl) := by
  unfold F_turns b_turns
  simp (disch := omega) only [gd_T, e_con, e_glob, e_var, rd_val, rd_own, e_bin, bin1_s, bin2_s, e_neg, neg1_s, e_cmp, cmp1_s, cmp2_s, e_chn, chn1_s, chn2_s, chn3_s, e_isK, isK1_s, e_bools, b_last, b_more, bolC_s, bolD_s, e_not, not1_s, e_ite, ite1_s, ite2_s, es_nil, es_cons, es1_s, es2_s, e_tup, e_lst, tup1_s, lst1_s,
 e_sub, sub1_s, sub2_s, o_none, o_some, o1_s, e_sl, sl1_s, sl2_s, sl3_s, e_rev, rev1_s, e_call, call1_s, e_callP, callP1_s, e_bi, bi1_s, e_me, me1_s, me2_s, e_isi, isi1_s, w_rngE, rng1_s, w_exE, wlk1_s, prL_some, walk_lst, walk_tup, walk_str, e_lc, lc1_s, lc2_s, e_lcP, lcP1_s, e_lc2, lcD1_s, e_lrng, lrng1_s, lrng2_s, e_sset, sset1_s, sset2_s, wipeE_nil, wipeE_cons, t_ev, tst1_s, ss_nil, ss_cons, seq_nx, seq_rt, seq_bk, seq_ct, seq_ite,
 s_asgV, s_asgO, asgV_s, asgO_s, settle_t, settle_c, frz_nil, frz_val, frz_none, frz_pool, frz_own, n_non, n_bl, n_int, n_str, n_lst, n_tup, n_nil, n_cons, s_unp, unp1_s, s_parE, par1_s, setAll_nil, setAll_cons, s_aug, aug1_s, aug2_i, aug2_t, aug3_s, s_app, app1_s, app2_s, s_ret, ret1_s, ret1_ite, s_if, if1_s, s_for, s_forT, for1_s, turnF_s, turnT_s, s_brk, s_cnt, s_pass, frzW_rng, frzW_ex,
 d_ev, d_nx, d_rt, d_ite, and_pure, or_pure, tru_bl, tru_int, tru_non, tru_str, tru_lst, tru_tup, pr_some, pr_gd, prB_some, prT_some, iniE, lawE, List.getElem?_cons_zero, List.getElem?_cons_succ, List.getElem?_nil, List.set_cons_zero, List.set_cons_succ, List.set_nil, List.map_cons, List.map_nil, List.nil_append, List.cons_append, List.append_nil, List.length_cons, List.length_nil, Nat.zero_le, Nat.reduceLeDiff, Nat.reduceAdd, List.replicate, ite_true, ite_false, if_true, if_false, Bool.false_eq_true, reduceIte, reduceCtorEq, ite_self, Bool.true_and, Bool.and_true, Bool.not_true, Bool.not_false, Bool.not_not, Option.map_some, Option.map_none, Pu.sizeLine_eq, cmp_ge, cmp_gt, cmp_le, cmp_lt, eq_i, eq_s, eq_b, ne_i, ne_s, ne_b, in_c, nin_c, op_add_i, op_add_s, op_add_t, op_add_l, op_sub_i, op_mul_r, op_mul_l, op_div_i, op_mod_i, bi_int, bi_intb, len_s, len_l, len_t, bi_list_t, bi_list_l, bi_tuple_t, bi_tuple_l, bi_min2, bi_max2, rev_s, rev_l, rev_t, sub_l, sub_t, sub_s, sl_l, sl_t, sl_s, at0, at1, at2, at3, lct_no, lct_yes, lctP_nm, l2T_nm, l2t1_s, ix_nm, ix_tp, lct1_s, lct2_s, lct3_s, gd_pos, max1, rngL_nat, rngD_A, rots_go hw, List.length_map, List.length_range', ssetD_lst]
  have := ssetL_str (zs := (List.range' 0 (max 1 w.length)).map fun k => rot k w) (by simp; omega)
  simp (disch := omega) only [gd_T, e_con, e_glob, e_var, rd_val, rd_own, e_bin, bin1_s, bin2_s, e_neg, neg1_s, e_cmp, cmp1_s, cmp2_s, e_chn, chn1_s, chn2_s, chn3_s, e_isK, isK1_s, e_bools, b_last, b_more, bolC_s, bolD_s, e_not, not1_s, e_ite, ite1_s, ite2_s, es_nil, es_cons, es1_s, es2_s, e_tup, e_lst, tup1_s, lst1_s,
 e_sub, sub1_s, sub2_s, o_none, o_some, o1_s, e_sl, sl1_s, sl2_s, sl3_s, e_rev, rev1_s, e_call, call1_s, e_callP, callP1_s, e_bi, bi1_s, e_me, me1_s, me2_s, e_isi, isi1_s, w_rngE, rng1_s, w_exE, wlk1_s, prL_some, walk_lst, walk_tup, walk_str, e_lc, lc1_s, lc2_s, e_lcP, lcP1_s, e_lc2, lcD1_s, e_lrng, lrng1_s, lrng2_s, e_sset, sset1_s, sset2_s, wipeE_nil, wipeE_cons, t_ev, tst1_s, ss_nil, ss_cons, seq_nx, seq_rt, seq_bk, seq_ct, seq_ite,
 s_asgV, s_asgO, asgV_s, asgO_s, settle_t, settle_c, frz_nil, frz_val, frz_none, frz_pool, frz_own, n_non, n_bl, n_int, n_str, n_lst, n_tup, n_nil, n_cons, s_unp, unp1_s, s_parE, par1_s, setAll_nil, setAll_cons, s_aug, aug1_s, aug2_i, aug2_t, aug3_s, s_app, app1_s, app2_s, s_ret, ret1_s, ret1_ite, s_if, if1_s, s_for, s_forT, for1_s, turnF_s, turnT_s, s_brk, s_cnt, s_pass, frzW_rng, frzW_ex,
 d_ev, d_nx, d_rt, d_ite, and_pure, or_pure, tru_bl, tru_int, tru_non, tru_str, tru_lst, tru_tup, pr_some, pr_gd, prB_some, prT_some, iniE, lawE, List.getElem?_cons_zero, List.getElem?_cons_succ, List.getElem?_nil, List.set_cons_zero, List.set_cons_succ, List.set_nil, List.map_cons, List.map_nil, List.nil_append, List.cons_append, List.append_nil, List.length_cons, List.length_nil, Nat.zero_le, Nat.reduceLeDiff, Nat.reduceAdd, List.replicate, ite_true, ite_false, if_true, if_false, Bool.false_eq_true, reduceIte, reduceCtorEq, ite_self, Bool.true_and, Bool.and_true, Bool.not_true, Bool.not_false, Bool.not_not, Option.map_some, Option.map_none, Pu.sizeLine_eq, cmp_ge, cmp_gt, cmp_le, cmp_lt, eq_i, eq_s, eq_b, ne_i, ne_s, ne_b, in_c, nin_c, op_add_i, op_add_s, op_add_t, op_add_l, op_sub_i, op_mul_r, op_mul_l, op_div_i, op_mod_i, bi_int, bi_intb, len_s, len_l, len_t, bi_list_t, bi_list_l, bi_tuple_t, bi_tuple_l, bi_min2, bi_max2, rev_s, rev_l, rev_t, sub_l, sub_t, sub_s, sl_l, sl_t, sl_s, at0, at1, at2, at3, lct_no, lct_yes, lctP_nm, l2T_nm, l2t1_s, ix_nm, ix_tp, lct1_s, lct2_s, lct3_s, gd_pos, this]
  rfl
theorem least_turn_ev (hw : w.length ≤ 1000) : F_least_turn [.str w] pl = some (.str (ltW w), pl) := by
  obtain ⟨r, hr⟩ := turnsW_cons (w := w)
  unfold F_least_turn b_least_turn
  simp (disch := omega) only [gd_T, e_con, e_glob, e_var, rd_val, rd_own, e_bin, bin1_s, bin2_s, e_neg, neg1_s, e_cmp, cmp1_s, cmp2_s, e_chn, chn1_s, chn2_s, chn3_s, e_isK, isK1_s, e_bools, b_last, b_more, bolC_s, bolD_s, e_not, not1_s, e_ite, ite1_s, ite2_s, es_nil, es_cons, es1_s, es2_s, e_tup, e_lst, tup1_s, lst1_s,
 e_sub, sub1_s, sub2_s, o_none, o_some, o1_s, e_sl, sl1_s, sl2_s, sl3_s, e_rev, rev1_s, e_call, call1_s, e_callP, callP1_s, e_bi, bi1_s, e_me, me1_s, me2_s, e_isi, isi1_s, w_rngE, rng1_s, w_exE, wlk1_s, prL_some, walk_lst, walk_tup, walk_str, e_lc, lc1_s, lc2_s, e_lcP, lcP1_s, e_lc2, lcD1_s, e_lrng, lrng1_s, lrng2_s, e_sset, sset1_s, sset2_s, wipeE_nil, wipeE_cons, t_ev, tst1_s, ss_nil, ss_cons, seq_nx, seq_rt, seq_bk, seq_ct, seq_ite,
 s_asgV, s_asgO, asgV_s, asgO_s, settle_t, settle_c, frz_nil, frz_val, frz_none, frz_pool, frz_own, n_non, n_bl, n_int, n_str, n_lst, n_tup, n_nil, n_cons, s_unp, unp1_s, s_parE, par1_s, setAll_nil, setAll_cons, s_aug, aug1_s, aug2_i, aug2_t, aug3_s, s_app, app1_s, app2_s, s_ret, ret1_s, ret1_ite, s_if, if1_s, s_for, s_forT, for1_s, turnF_s, turnT_s, s_brk, s_cnt, s_pass, frzW_rng, frzW_ex,
 d_ev, d_nx, d_rt, d_ite, and_pure, or_pure, tru_bl, tru_int, tru_non, tru_str, tru_lst, tru_tup, pr_some, pr_gd, prB_some, prT_some, iniE, lawE, List.getElem?_cons_zero, List.getElem?_cons_succ, List.getElem?_nil, List.set_cons_zero, List.set_cons_succ, List.set_nil, List.map_cons, List.map_nil, List.nil_append, List.cons_append, List.append_nil, List.length_cons, List.length_nil, Nat.zero_le, Nat.reduceLeDiff, Nat.reduceAdd, List.replicate, ite_true, ite_false, if_true, if_false, Bool.false_eq_true, reduceIte, reduceCtorEq, ite_self, Bool.true_and, Bool.and_true, Bool.not_true, Bool.not_false, Bool.not_not, Option.map_some, Option.map_none, Pu.sizeLine_eq, cmp_ge, cmp_gt, cmp_le, cmp_lt, eq_i, eq_s, eq_b, ne_i, ne_s, ne_b, in_c, nin_c, op_add_i, op_add_s, op_add_t, op_add_l, op_sub_i, op_mul_r, op_mul_l, op_div_i, op_mod_i, bi_int, bi_intb, len_s, len_l, len_t, bi_list_t, bi_list_l, bi_tuple_t, bi_tuple_l, bi_min2, bi_max2, rev_s, rev_l, rev_t, sub_l, sub_t, sub_s, sl_l, sl_t, sl_s, at0, at1, at2, at3, lct_no, lct_yes, lctP_nm, l2T_nm, l2t1_s, ix_nm, ix_tp, lct1_s, lct2_s, lct3_s, gd_pos, turns_ev hw, hr]
theorem rot_rot {α : Type} {w : List α} {j k : Nat} (hj : j ≤ w.length) (hk : k ≤ w.length) (h0 : 0 < w.length) : rot j (rot k w) = rot ((j + k) % w.length) w := by
  have hm := Nat.mod_lt (j + k) h0
  apply ev_ext
  · rw [rot_len, rot_len, rot_len]
  · intro i
    rw [ev_rot (by rw [rot_len]; exact hj), ev_rot hk, ev_rot (by omega)]
    unfold ev
    congr 1
    rw [Nat.add_assoc, Nat.add_mod, Nat.add_mod i ((j + k) % w.length), Nat.mod_mod]
/-- turning does not change the turns -/
theorem turns_rot {k : Nat} (hk : k ≤ w.length) : turnsW (rot k w) = turnsW w := by
  by_cases h0 : w.length = 0
  · have : w = [] := List.eq_nil_of_length_eq_zero h0
    subst this
    have e : rot k ([] : List Nat) = [] := by simp [rot]
    rw [e]
  unfold turnsW
  refine uq_congr fun x => ?_
  rw [rotsW_mem, rotsW_mem, rot_len]
  constructor
  · rintro ⟨j, hj, rfl⟩
    have := Nat.mod_lt (j + k) (show 0 < w.length by omega)
    exact ⟨(j + k) % w.length, by omega, (rot_rot (by omega) hk (by omega)).symm⟩
  · rintro ⟨j, hj, rfl⟩
    have hm := Nat.mod_lt (j + (w.length - k)) (show 0 < w.length by omega)
    refine ⟨(j + (w.length - k)) % w.length, by omega, ?_⟩
    rw [rot_rot (by omega) hk (by omega)]
    have : ((j + (w.length - k)) % w.length + k) % w.length = j % w.length := by
      rw [Nat.mod_add_mod]
      have e : j + (w.length - k) + k = j + w.length := by omega
      rw [e, Nat.add_mod_right]
    rw [this, Nat.mod_eq_of_lt (by omega)]
theorem self_turn : w ∈ turnsW w := turnsW_mem.mpr ⟨0, by omega, rot_zero⟩
theorem turns_eq_iff {u : List Nat} : turnsW u = turnsW w ↔ u ∈ turnsW w := by
  constructor
  · intro h
    rw [← h]
    exact self_turn
  · intro h
    obtain ⟨k, hk, rfl⟩ := turnsW_mem.mp h
    by_cases h0 : w.length = 0
    · have : w = [] := List.eq_nil_of_length_eq_zero h0
      subst this
      have e : rot k ([] : List Nat) = [] := by simp [rot]
      rw [e]
    · exact turns_rot (by omega)
theorem ltW_mem : ltW w ∈ turnsW w := by
  obtain ⟨r, hr⟩ := turnsW_cons (w := w)
  rw [hr]
  exact List.mem_cons_self
theorem ltW_eq_iff {u : List Nat} : ltW u = ltW w ↔ turnsW u = turnsW w := by
  constructor
  · intro h
    have h1 := turns_eq_iff.mpr (ltW_mem (w := u))
    have h2 := turns_eq_iff.mpr (ltW_mem (w := w))
    rw [← h1, ← h2, h]
  · intro h
    unfold ltW
    rw [h]
theorem turn_len {x : List Nat} (h : x ∈ turnsW w) : x.length = w.length := by
  obtain ⟨k, _, rfl⟩ := turnsW_mem.mp h
  exact rot_len
theorem ltW_len : (ltW w).length = w.length := turn_len ltW_mem
/-- a word's turns are as many as its root has letters -/
theorem rot_mod (h : w ≠ []) {j k : Nat} (hj : j ≤ w.length) (hk : k ≤ w.length) : rot j w = rot k w ↔ j % rd w = k % rd w := by
  have S := rd_spec h
  have hc : Cyc (ev w) (rd w) := (cyc_per S.dvd).mpr S.per
  have key : ∀ j k, j ≤ k → k ≤ w.length → (rot j w = rot k w ↔ j % rd w = k % rd w) := by
    intro j k hjk hk
    constructor
    · intro e
      have : Cyc (ev w) (k - j) := fun i => by
        have h1 : ∀ i, ev w (i + j) = ev w (i + k) := fun i => by rw [← ev_rot (by omega), ← ev_rot hk, e]
        -- turn back to the place
        have h2 := h1 (i + (w.length - j))
        have e1 : i + (w.length - j) + j = i + w.length := by omega
        have e2 : i + (w.length - j) + k = i + (k - j) + w.length := by omega
        rw [e1, e2, ev_len, ev_len] at h2
        exact h2.symm
      have hd := rd_dvd h this
      obtain ⟨c, hc⟩ := hd
      have : k = j + rd w * c := by omega
      rw [this, Nat.add_mul_mod_self_left]
    · intro e
      have hd : rd w ∣ k - j := by
        have h1 := Nat.div_add_mod j (rd w)
        have h2 := Nat.div_add_mod k (rd w)
        refine ⟨k / rd w - j / rd w, ?_⟩
        rw [Nat.mul_sub]
        omega
      obtain ⟨c, hcc⟩ := hd
      have cc := hc.mul c
      apply ev_ext
      · rw [rot_len, rot_len]
      · intro i
        rw [ev_rot (by omega), ev_rot hk]
        have : i + k = i + j + c * rd w := by rw [Nat.mul_comm]; omega
        rw [this, cc]
  rcases Nat.le_total j k with hle | hle
  · exact key j k hle hk
  · rw [eq_comm, key k j hle hj, eq_comm]

/-! ### the laws' own turns and periods -/
def b__law_turns : Sts := (.cons (.ite (.cmp .Eq (.var 0) (.con (.str []))) (.cons (.ret (.lst (.cons (.con (.str [])) .nil))) .nil) .nil) (.cons (.ret (.call "_law_unlike" 1 F__law_unlike (.cons (.lc 1 (.rng (.cons (.bi .len (.cons (.var 0) .nil)) .nil)) .no (.bin .Add (.sl (.var 0) (.yes (.var 1)) .no) (.sl (.var 0) .no (.yes (.var 1))))) .nil))) .nil))
def F__law_turns : Fnc := fun ds pl => evD fuel b__law_turns 2 false ds pl
theorem law_turns_ev (hw : w.length ≤ 1000) : F__law_turns [.str w] pl = some (.lst ((turnsW w).map .str), pl) := by
  unfold F__law_turns b__law_turns
  by_cases h : w = []
  · subst h
    have e : turnsW [] = [[]] := by
      refine (uq_of (l := [[]]) (List.pairwise_singleton _ _) fun x => ?_).symm
      rw [rotsW_mem]
      constructor
      · intro hx
        cases List.mem_singleton.mp hx
        exact ⟨0, by decide, rfl⟩
      · rintro ⟨k, _, rfl⟩
        simp [rot]
    simp +decide only [gd_T, e_con, e_glob, e_var, rd_val, rd_own, e_bin, bin1_s, bin2_s, e_neg, neg1_s, e_cmp, cmp1_s, cmp2_s, e_chn, chn1_s, chn2_s, chn3_s, e_isK, isK1_s, e_bools, b_last, b_more, bolC_s, bolD_s, e_not, not1_s, e_ite, ite1_s, ite2_s, es_nil, es_cons, es1_s, es2_s, e_tup, e_lst, tup1_s, lst1_s,
 e_sub, sub1_s, sub2_s, o_none, o_some, o1_s, e_sl, sl1_s, sl2_s, sl3_s, e_rev, rev1_s, e_call, call1_s, e_callP, callP1_s, e_bi, bi1_s, e_me, me1_s, me2_s, e_isi, isi1_s, w_rngE, rng1_s, w_exE, wlk1_s, prL_some, walk_lst, walk_tup, walk_str, e_lc, lc1_s, lc2_s, e_lcP, lcP1_s, e_lc2, lcD1_s, e_lrng, lrng1_s, lrng2_s, e_sset, sset1_s, sset2_s, wipeE_nil, wipeE_cons, t_ev, tst1_s, ss_nil, ss_cons, seq_nx, seq_rt, seq_bk, seq_ct, seq_ite,
 s_asgV, s_asgO, asgV_s, asgO_s, settle_t, settle_c, frz_nil, frz_val, frz_none, frz_pool, frz_own, n_non, n_bl, n_int, n_str, n_lst, n_tup, n_nil, n_cons, s_unp, unp1_s, s_parE, par1_s, setAll_nil, setAll_cons, s_aug, aug1_s, aug2_i, aug2_t, aug3_s, s_app, app1_s, app2_s, s_ret, ret1_s, ret1_ite, s_if, if1_s, s_for, s_forT, for1_s, turnF_s, turnT_s, s_brk, s_cnt, s_pass, frzW_rng, frzW_ex,
 d_ev, d_nx, d_rt, d_ite, and_pure, or_pure, tru_bl, tru_int, tru_non, tru_str, tru_lst, tru_tup, pr_some, pr_gd, prB_some, prT_some, iniE, lawE, List.getElem?_cons_zero, List.getElem?_cons_succ, List.getElem?_nil, List.set_cons_zero, List.set_cons_succ, List.set_nil, List.map_cons, List.map_nil, List.nil_append, List.cons_append, List.append_nil, List.length_cons, List.length_nil, Nat.zero_le, Nat.reduceLeDiff, Nat.reduceAdd, List.replicate, ite_true, ite_false, if_true, if_false, Bool.false_eq_true, reduceIte, reduceCtorEq, ite_self, Bool.true_and, Bool.and_true, Bool.not_true, Bool.not_false, Bool.not_not, Option.map_some, Option.map_none, Pu.sizeLine_eq, cmp_ge, cmp_gt, cmp_le, cmp_lt, eq_i, eq_s, eq_b, ne_i, ne_s, ne_b, in_c, nin_c, op_add_i, op_add_s, op_add_t, op_add_l, op_sub_i, op_mul_r, op_mul_l, op_div_i, op_mod_i, bi_int, bi_intb, len_s, len_l, len_t, bi_list_t, bi_list_l, bi_tuple_t, bi_tuple_l, bi_min2, bi_max2, rev_s, rev_l, rev_t, sub_l, sub_t, sub_s, sl_l, sl_t, sl_s, at0, at1, at2, at3, lct_no, lct_yes, lctP_nm, l2T_nm, l2t1_s, ix_nm, ix_tp, lct1_s, lct2_s, lct3_s, gd_pos, e]
  · have hl : 0 < w.length := List.length_pos_iff.mpr h
    have hu := law_unlike_ev (zs := (List.range' 0 w.length).map fun k => rot k w) (pl := pl) (by simp; omega)
    have e : uq ((List.range' 0 w.length).map fun k => rot k w) = turnsW w := by
      unfold turnsW rotsW
      rw [Nat.max_eq_right hl]
    rw [e] at hu
    simp (disch := omega) only [gd_T, e_con, e_glob, e_var, rd_val, rd_own, e_bin, bin1_s, bin2_s, e_neg, neg1_s, e_cmp, cmp1_s, cmp2_s, e_chn, chn1_s, chn2_s, chn3_s, e_isK, isK1_s, e_bools, b_last, b_more, bolC_s, bolD_s, e_not, not1_s, e_ite, ite1_s, ite2_s, es_nil, es_cons, es1_s, es2_s, e_tup, e_lst, tup1_s, lst1_s,
 e_sub, sub1_s, sub2_s, o_none, o_some, o1_s, e_sl, sl1_s, sl2_s, sl3_s, e_rev, rev1_s, e_call, call1_s, e_callP, callP1_s, e_bi, bi1_s, e_me, me1_s, me2_s, e_isi, isi1_s, w_rngE, rng1_s, w_exE, wlk1_s, prL_some, walk_lst, walk_tup, walk_str, e_lc, lc1_s, lc2_s, e_lcP, lcP1_s, e_lc2, lcD1_s, e_lrng, lrng1_s, lrng2_s, e_sset, sset1_s, sset2_s, wipeE_nil, wipeE_cons, t_ev, tst1_s, ss_nil, ss_cons, seq_nx, seq_rt, seq_bk, seq_ct, seq_ite,
 s_asgV, s_asgO, asgV_s, asgO_s, settle_t, settle_c, frz_nil, frz_val, frz_none, frz_pool, frz_own, n_non, n_bl, n_int, n_str, n_lst, n_tup, n_nil, n_cons, s_unp, unp1_s, s_parE, par1_s, setAll_nil, setAll_cons, s_aug, aug1_s, aug2_i, aug2_t, aug3_s, s_app, app1_s, app2_s, s_ret, ret1_s, ret1_ite, s_if, if1_s, s_for, s_forT, for1_s, turnF_s, turnT_s, s_brk, s_cnt, s_pass, frzW_rng, frzW_ex,
 d_ev, d_nx, d_rt, d_ite, and_pure, or_pure, tru_bl, tru_int, tru_non, tru_str, tru_lst, tru_tup, pr_some, pr_gd, prB_some, prT_some, iniE, lawE, List.getElem?_cons_zero, List.getElem?_cons_succ, List.getElem?_nil, List.set_cons_zero, List.set_cons_succ, List.set_nil, List.map_cons, List.map_nil, List.nil_append, List.cons_append, List.append_nil, List.length_cons, List.length_nil, Nat.zero_le, Nat.reduceLeDiff, Nat.reduceAdd, List.replicate, ite_true, ite_false, if_true, if_false, Bool.false_eq_true, reduceIte, reduceCtorEq, ite_self, Bool.true_and, Bool.and_true, Bool.not_true, Bool.not_false, Bool.not_not, Option.map_some, Option.map_none, Pu.sizeLine_eq, cmp_ge, cmp_gt, cmp_le, cmp_lt, eq_i, eq_s, eq_b, ne_i, ne_s, ne_b, in_c, nin_c, op_add_i, op_add_s, op_add_t, op_add_l, op_sub_i, op_mul_r, op_mul_l, op_div_i, op_mod_i, bi_int, bi_intb, len_s, len_l, len_t, bi_list_t, bi_list_l, bi_tuple_t, bi_tuple_l, bi_min2, bi_max2, rev_s, rev_l, rev_t, sub_l, sub_t, sub_s, sl_l, sl_t, sl_s, at0, at1, at2, at3, lct_no, lct_yes, lctP_nm, l2T_nm, l2t1_s, ix_nm, ix_tp, lct1_s, lct2_s, lct3_s, gd_pos, beqL, h, decide_false, rngL_nat, rngD_A, rots_go hw, List.length_map, List.length_range', hu]
def apN (w : List Nat) (p : Nat) : Nat := ((List.range' 0 (w.length - p)).filter fun k => !decide (w[k]? = w[k + p]?)).length
theorem apN_zero {p : Nat} : apN w p = 0 ↔ PerL w p := by
  unfold apN
  rw [List.length_eq_zero_iff, List.filter_eq_nil_iff]
  constructor
  · intro h i hi
    have := h i (by rw [List.mem_range'_1]; omega)
    simpa using this
  · intro h i hi
    rw [List.mem_range'_1] at hi
    have := h i (by omega)
    simpa using this
def b__law_apart : Sts := (.cons (.ret (.bi .len (.cons (.lc 2 (.rng (.cons (.bin .Sub (.bi .len (.cons (.var 0) .nil)) (.var 1)) .nil)) (.yes (.cmp .NotEq (.sub (.var 0) (.var 2)) (.sub (.var 0) (.bin .Add (.var 2) (.var 1))))) (.var 2)) .nil))) .nil)
def F__law_apart : Fnc := fun ds pl => evD fuel b__law_apart 3 false ds pl
theorem letS {k : Nat} (hk : k < w.length) (hw : w.length ≤ 16777216) : opSub (.str w) (.int (k : Nat)) = some (.str [w[k]]) := by
  rw [sub_s hw, Pu.atI_nat, List.getElem?_eq_getElem hk]
  rfl
theorem law_apart_ev (hw : w.length ≤ 1000) {p : Nat} (hp : p ≤ 100000) : F__law_apart [.str w, .int (p : Nat)] pl = some (.int (apN w p : Nat), pl) := by
  unfold F__law_apart b__law_apart
  have e : rngL [.int ((w.length : Int) - (p : Int))] = some (rngA 0 (w.length - p)) := by
    rw [rngL_int (by omega) (by omega), rngD_A]
    congr 2
    omega
  have e2 := lc_rngF (turn := lcTurn 2 (.yes (.cmp .NotEq (.sub (.var 0) (.var 2)) (.sub (.var 0) (.bin .Add (.var 2) (.var 1))))) (.var 2) [.val (.str w), .val (.int (p : Nat)), .none]) (a := 0) (n := w.length - p) (pl := pl) (p := fun k => !decide (w[k]? = w[k + p]?)) (g := fun k => .int (k : Nat)) (fun k _ hk => by
    have h1 : k < w.length := by omega
    have h2 : k + p < w.length := by omega
    simp (disch := omega) only [gd_T, e_con, e_glob, e_var, rd_val, rd_own, e_bin, bin1_s, bin2_s, e_neg, neg1_s, e_cmp, cmp1_s, cmp2_s, e_chn, chn1_s, chn2_s, chn3_s, e_isK, isK1_s, e_bools, b_last, b_more, bolC_s, bolD_s, e_not, not1_s, e_ite, ite1_s, ite2_s, es_nil, es_cons, es1_s, es2_s, e_tup, e_lst, tup1_s, lst1_s,
 e_sub, sub1_s, sub2_s, o_none, o_some, o1_s, e_sl, sl1_s, sl2_s, sl3_s, e_rev, rev1_s, e_call, call1_s, e_callP, callP1_s, e_bi, bi1_s, e_me, me1_s, me2_s, e_isi, isi1_s, w_rngE, rng1_s, w_exE, wlk1_s, prL_some, walk_lst, walk_tup, walk_str, e_lc, lc1_s, lc2_s, e_lcP, lcP1_s, e_lc2, lcD1_s, e_lrng, lrng1_s, lrng2_s, e_sset, sset1_s, sset2_s, wipeE_nil, wipeE_cons, t_ev, tst1_s, ss_nil, ss_cons, seq_nx, seq_rt, seq_bk, seq_ct, seq_ite,
 s_asgV, s_asgO, asgV_s, asgO_s, settle_t, settle_c, frz_nil, frz_val, frz_none, frz_pool, frz_own, n_non, n_bl, n_int, n_str, n_lst, n_tup, n_nil, n_cons, s_unp, unp1_s, s_parE, par1_s, setAll_nil, setAll_cons, s_aug, aug1_s, aug2_i, aug2_t, aug3_s, s_app, app1_s, app2_s, s_ret, ret1_s, ret1_ite, s_if, if1_s, s_for, s_forT, for1_s, turnF_s, turnT_s, s_brk, s_cnt, s_pass, frzW_rng, frzW_ex,
 d_ev, d_nx, d_rt, d_ite, and_pure, or_pure, tru_bl, tru_int, tru_non, tru_str, tru_lst, tru_tup, pr_some, pr_gd, prB_some, prT_some, iniE, lawE, List.getElem?_cons_zero, List.getElem?_cons_succ, List.getElem?_nil, List.set_cons_zero, List.set_cons_succ, List.set_nil, List.map_cons, List.map_nil, List.nil_append, List.cons_append, List.append_nil, List.length_cons, List.length_nil, Nat.zero_le, Nat.reduceLeDiff, Nat.reduceAdd, List.replicate, ite_true, ite_false, if_true, if_false, Bool.false_eq_true, reduceIte, reduceCtorEq, ite_self, Bool.true_and, Bool.and_true, Bool.not_true, Bool.not_false, Bool.not_not, Option.map_some, Option.map_none, Pu.sizeLine_eq, cmp_ge, cmp_gt, cmp_le, cmp_lt, eq_i, eq_s, eq_b, ne_i, ne_s, ne_b, in_c, nin_c, op_add_i, op_add_s, op_add_t, op_add_l, op_sub_i, op_mul_r, op_mul_l, op_div_i, op_mod_i, bi_int, bi_intb, len_s, len_l, len_t, bi_list_t, bi_list_l, bi_tuple_t, bi_tuple_l, bi_min2, bi_max2, rev_s, rev_l, rev_t, sub_l, sub_t, sub_s, sl_l, sl_t, sl_s, at0, at1, at2, at3, lct_no, lct_yes, lctP_nm, l2T_nm, l2t1_s, ix_nm, ix_tp, lct1_s, lct2_s, lct3_s, gd_pos, addN, letS h1, letS h2, beqL, List.getElem?_eq_getElem h1, List.getElem?_eq_getElem h2]
    have : decide ([w[k]] = [w[k + p]]) = decide (some w[k] = some w[k + p]) := by
      rw [Bool.eq_iff_iff]; simp
    rw [this])
  have hl : (((List.range' 0 (w.length - p)).filter fun k => !decide (w[k]? = w[k + p]?)).length) ≤ 16777216 := Nat.le_trans (List.length_filter_le _ _) (by rw [List.length_range']; omega)
  simp (disch := omega) only [gd_T, e_con, e_glob, e_var, rd_val, rd_own, e_bin, bin1_s, bin2_s, e_neg, neg1_s, e_cmp, cmp1_s, cmp2_s, e_chn, chn1_s, chn2_s, chn3_s, e_isK, isK1_s, e_bools, b_last, b_more, bolC_s, bolD_s, e_not, not1_s, e_ite, ite1_s, ite2_s, es_nil, es_cons, es1_s, es2_s, e_tup, e_lst, tup1_s, lst1_s,
 e_sub, sub1_s, sub2_s, o_none, o_some, o1_s, e_sl, sl1_s, sl2_s, sl3_s, e_rev, rev1_s, e_call, call1_s, e_callP, callP1_s, e_bi, bi1_s, e_me, me1_s, me2_s, e_isi, isi1_s, w_rngE, rng1_s, w_exE, wlk1_s, prL_some, walk_lst, walk_tup, walk_str, e_lc, lc1_s, lc2_s, e_lcP, lcP1_s, e_lc2, lcD1_s, e_lrng, lrng1_s, lrng2_s, e_sset, sset1_s, sset2_s, wipeE_nil, wipeE_cons, t_ev, tst1_s, ss_nil, ss_cons, seq_nx, seq_rt, seq_bk, seq_ct, seq_ite,
 s_asgV, s_asgO, asgV_s, asgO_s, settle_t, settle_c, frz_nil, frz_val, frz_none, frz_pool, frz_own, n_non, n_bl, n_int, n_str, n_lst, n_tup, n_nil, n_cons, s_unp, unp1_s, s_parE, par1_s, setAll_nil, setAll_cons, s_aug, aug1_s, aug2_i, aug2_t, aug3_s, s_app, app1_s, app2_s, s_ret, ret1_s, ret1_ite, s_if, if1_s, s_for, s_forT, for1_s, turnF_s, turnT_s, s_brk, s_cnt, s_pass, frzW_rng, frzW_ex,
 d_ev, d_nx, d_rt, d_ite, and_pure, or_pure, tru_bl, tru_int, tru_non, tru_str, tru_lst, tru_tup, pr_some, pr_gd, prB_some, prT_some, iniE, lawE, List.getElem?_cons_zero, List.getElem?_cons_succ, List.getElem?_nil, List.set_cons_zero, List.set_cons_succ, List.set_nil, List.map_cons, List.map_nil, List.nil_append, List.cons_append, List.append_nil, List.length_cons, List.length_nil, Nat.zero_le, Nat.reduceLeDiff, Nat.reduceAdd, List.replicate, ite_true, ite_false, if_true, if_false, Bool.false_eq_true, reduceIte, reduceCtorEq, ite_self, Bool.true_and, Bool.and_true, Bool.not_true, Bool.not_false, Bool.not_not, Option.map_some, Option.map_none, Pu.sizeLine_eq, cmp_ge, cmp_gt, cmp_le, cmp_lt, eq_i, eq_s, eq_b, ne_i, ne_s, ne_b, in_c, nin_c, op_add_i, op_add_s, op_add_t, op_add_l, op_sub_i, op_mul_r, op_mul_l, op_div_i, op_mod_i, bi_int, bi_intb, len_s, len_l, len_t, bi_list_t, bi_list_l, bi_tuple_t, bi_tuple_l, bi_min2, bi_max2, rev_s, rev_l, rev_t, sub_l, sub_t, sub_s, sl_l, sl_t, sl_s, at0, at1, at2, at3, lct_no, lct_yes, lctP_nm, l2T_nm, l2t1_s, ix_nm, ix_tp, lct1_s, lct2_s, lct3_s, gd_pos, e, e2, List.length_map, hl]
  rfl
end
end Pu
set_option Elab.async false
set_option linter.all false
set_option maxRecDepth 100000
set_option maxHeartbeats 1000000
namespace Pu
open PySem PySem.Spec PyProof.Rows L2 Wd

/-! ### papers -/
section
variable {v : D} {z : List Nat} {pl : Pool}
theorem nm1 : F_is_named [v, .str z, .int 1] pl = some (.bl (named v z 1), pl) := is_named_ev (n := 1) (by decide)
theorem nm2 : F_is_named [v, .str z, .int 2] pl = some (.bl (named v z 2), pl) := is_named_ev (n := 2) (by decide)
theorem nm3 : F_is_named [v, .str z, .int 3] pl = some (.bl (named v z 3), pl) := is_named_ev (n := 3) (by decide)
theorem nm4 : F_is_named [v, .str z, .int 4] pl = some (.bl (named v z 4), pl) := is_named_ev (n := 4) (by decide)
theorem nl1 : F__law_named [v, .str z, .int 1] pl = some (.bl (named v z 1), pl) := named_ev (n := 1) (by decide)
theorem nl2 : F__law_named [v, .str z, .int 2] pl = some (.bl (named v z 2), pl) := named_ev (n := 2) (by decide)
theorem nl3 : F__law_named [v, .str z, .int 3] pl = some (.bl (named v z 3), pl) := named_ev (n := 3) (by decide)
theorem nl4 : F__law_named [v, .str z, .int 4] pl = some (.bl (named v z 4), pl) := named_ev (n := 4) (by decide)
theorem named_inv {n : Nat} (h : named v z n = true) : ∃ r, v = .tup (.str z :: r) ∧ r.length + 1 = n := by
  unfold named at h
  split at h
  · rename_i y r
    rw [Bool.and_eq_true, decide_eq_true_eq, beq_iff_eq] at h
    obtain ⟨h1, rfl⟩ := h
    exact ⟨r, rfl, h1⟩
  · cases h
theorem named1 (h : named v z 1 = true) : v = .tup [.str z] := by
  obtain ⟨r, rfl, hr⟩ := named_inv h
  match r, hr with
  | [], _ => rfl
theorem named2 (h : named v z 2 = true) : ∃ x, v = .tup [.str z, x] := by
  obtain ⟨r, rfl, hr⟩ := named_inv h
  match r, hr with
  | [x], _ => exact ⟨x, rfl⟩
theorem named3 (h : named v z 3 = true) : ∃ x y, v = .tup [.str z, x, y] := by
  obtain ⟨r, rfl, hr⟩ := named_inv h
  match r, hr with
  | [x, y], _ => exact ⟨x, y, rfl⟩
theorem named4 (h : named v z 4 = true) : ∃ x y u, v = .tup [.str z, x, y, u] := by
  obtain ⟨r, rfl, hr⟩ := named_inv h
  match r, hr with
  | [x, y, u], _ => exact ⟨x, y, u, rfl⟩
theorem named_tup {y : List Nat} {r : List D} {n : Nat} : named (.tup (.str y :: r)) z n = (decide (r.length + 1 = n) && decide (y = z)) := by
  show (decide (r.length + 1 = n) && y == z) = _
  rw [beqL]
def wdW (w : List Nat) : Prop := w.length ≤ 60 ∧ ∀ c ∈ w, c ∈ abcd
theorem wdW_B {w : List Nat} (h : wdW w) : wordB (.str w) = true := by
  show (decide (w.length ≤ 60) && w.all fun c => decide (c ∈ abcd)) = true
  rw [Bool.and_eq_true, decide_eq_true_eq, List.all_eq_true]
  exact ⟨h.1, fun c hc => decide_eq_true (h.2 c hc)⟩
theorem abcd_lt {c : Nat} (h : c ∈ abcd) : c < 1114112 := by
  simp only [abcd, List.mem_cons, List.not_mem_nil, or_false] at h
  omega
theorem wdW_sz {w : List Nat} (h : wdW w) : szD 60 (.str w) := by rw [s_str]; exact ⟨h.1, fun c hc => abcd_lt (h.2 c hc)⟩
theorem wdW_cp {w : List Nat} (h : wdW w) : ∀ c ∈ w, c < 1114112 := fun c hc => abcd_lt (h.2 c hc)
theorem wdW_sub {u w : List Nat} (h : wdW w) (hl : u.length ≤ 60) (hs : ∀ c ∈ u, c ∈ w) : wdW u := ⟨hl, fun c hc => h.2 c (hs c hc)⟩
theorem wdW_take {w : List Nat} {k : Nat} (h : wdW w) : wdW (w.take k) := wdW_sub h (by have := h.1; rw [List.length_take]; omega) fun c hc => List.mem_of_mem_take hc
theorem wdW_drop {w : List Nat} {k : Nat} (h : wdW w) : wdW (w.drop k) := wdW_sub h (by have := h.1; rw [List.length_drop]; omega) fun c hc => List.mem_of_mem_drop hc
theorem wdW_rev {w : List Nat} (h : wdW w) : wdW w.reverse := wdW_sub h (by have := h.1; rw [List.length_reverse]; omega) fun c hc => List.mem_reverse.mp hc
theorem wdW_app {u w : List Nat} (hu : wdW u) (hw : wdW w) (h : u.length + w.length ≤ 60) : wdW (u ++ w) := ⟨by rw [List.length_append]; omega, fun c hc => (List.mem_append.mp hc).elim (hu.2 c) (hw.2 c)⟩
theorem wdW_nil : wdW [] := ⟨by decide, fun c hc => by cases hc⟩
theorem pw_mem {n : Nat} {w : List Nat} {c : Nat} (h : c ∈ pw n w) : c ∈ w := by
  obtain ⟨l, hl, hc⟩ := List.mem_flatten.mp h
  rw [List.eq_of_mem_replicate hl] at hc
  exact hc
theorem wdW_pw {n : Nat} {w : List Nat} (h : wdW w) (hn : n * w.length ≤ 60) : wdW (pw n w) := wdW_sub h (by rw [pw_len]; exact hn) fun c hc => pw_mem hc
theorem wdW_drawn {w : List Nat} {sz : Int} (hl : w.length ≤ 60) (h4 : sz ≤ 4) (h : ∀ c ∈ w, 97 ≤ c ∧ (c : Int) < 97 + sz) : wdW w := by
  refine ⟨hl, fun c hc => ?_⟩
  have := h c hc
  have : c = 97 ∨ c = 98 ∨ c = 99 ∨ c = 100 := by omega
  rcases this with rfl | rfl | rfl | rfl <;> decide
theorem wordB_inv (h : wordB v = true) : ∃ u, v = .str u ∧ wdW u := by
  unfold wordB at h
  split at h
  · rename_i u
    rw [Bool.and_eq_true, decide_eq_true_eq, List.all_eq_true] at h
    exact ⟨u, rfl, h.1, fun c hc => by have := h.2 c hc; simpa using this⟩
  · cases h
theorem fromB_inv {lo hi : Int} (h : fromB v lo hi = true) : ∃ j, v = .int j ∧ lo ≤ j ∧ j ≤ hi := by
  unfold fromB at h
  split at h
  · rename_i i
    rw [Bool.and_eq_true, decide_eq_true_eq, decide_eq_true_eq] at h
    exact ⟨i, rfl, h.1, h.2⟩
  · cases h
theorem fromB_nat {hi : Nat} (h : fromB v 0 (hi : Nat) = true) : ∃ j : Nat, v = .int (j : Nat) ∧ j ≤ hi := by
  obtain ⟨j, rfl, h1, h2⟩ := fromB_inv h
  exact ⟨j.toNat, by congr 1; omega, by omega⟩
theorem fromB_natA {lo hi : Nat} (h : fromB v (lo : Nat) (hi : Nat) = true) : ∃ j : Nat, v = .int (j : Nat) ∧ lo ≤ j ∧ j ≤ hi := by
  obtain ⟨j, rfl, h1, h2⟩ := fromB_inv h
  exact ⟨j.toNat, by congr 1; omega, by omega, by omega⟩
theorem fromB_t {i lo hi : Int} (h1 : lo ≤ i) (h2 : i ≤ hi) : fromB (.int i) lo hi = true := by
  show (decide (lo ≤ i) && decide (i ≤ hi)) = true
  rw [decide_eq_true h1, decide_eq_true h2]
  rfl
theorem is_word_sz (h : szD 10000000 v) : F_is_word [v] pl = some (.bl (wordB v), pl) := is_word_ev fun w e => by subst e; rw [s_str] at h; omega
theorem law_word_sz (h : szD 10000000 v) : F__law_word [v] pl = some (.bl (wordB v), pl) := word_ev fun w e => by subst e; rw [s_str] at h; omega
/-- a loop that asks and goes on -/
theorem for_ask {turn : D → Env → Pool → RsS} {E : Slot → Env} : ∀ {l : List D} {s : Slot}, (∀ x ∈ l, ∀ s, turn x (E s) pl = some (.nx, E (.val x), pl)) → ∃ s', forGo turn l (E s) pl = some (.nx, E s', pl) ∧ (s' = s ∨ ∃ x, s' = .val x)
  | [], s, _ => ⟨s, rfl, .inl rfl⟩
  | x :: xs, s, h => by
    obtain ⟨s', e, hs⟩ := for_ask (turn := turn) (E := E) (l := xs) (s := .val x) fun y hy => h y (List.mem_cons_of_mem _ hy)
    refine ⟨s', ?_, ?_⟩
    · unfold forGo
      rw [h x List.mem_cons_self s]
      exact e
    · rcases hs with hs | hs
      · exact .inr ⟨x, hs⟩
      · exact .inr hs
theorem for_ask1 {turn : D → Env → Pool → RsS} {E : Slot → Env} {l : List D} {s : Slot} (hl : l ≠ []) (h : ∀ x ∈ l, ∀ s, turn x (E s) pl = some (.nx, E (.val x), pl)) : ∃ x, forGo turn l (E s) pl = some (.nx, E (.val x), pl) := by
  cases l with
  | nil => exact absurd rfl hl
  | cons x xs =>
    obtain ⟨s', e, hs⟩ := for_ask (turn := turn) (E := E) (l := xs) (s := .val x) fun y hy => h y (List.mem_cons_of_mem _ hy)
    have h1 := h x List.mem_cons_self s
    rcases hs with rfl | ⟨y, rfl⟩
    · exact ⟨x, by unfold forGo; rw [h1]; exact e⟩
    · exact ⟨y, by unfold forGo; rw [h1]; exact e⟩
theorem all_app {P : D → Prop} {a b : List D} (h1 : ∀ x ∈ a, P x) (h2 : ∀ x ∈ b, P x) : ∀ x ∈ a ++ b, P x := fun x hx => (List.mem_append.mp hx).elim (h1 x) (h2 x)
theorem law_equal_n {n : Nat} (h : n ≤ 10000000) : F__law_equal [.int (n : Nat), .int (n : Nat)] pl = some (.bl true, pl) := law_equal_i ⟨by omega, by omega⟩
theorem ne_of_len {w : List Nat} (h : 0 < w.length) : w ≠ [] := fun z => by rw [z] at h; exact absurd h (by decide)
/-- sizes of what stands in a row -/
theorem sz_tup {n : Nat} {l : List D} (h : l.length ≤ n) (a : ∀ x ∈ l, szD n x) : szD n (.tup l) := by rw [s_tup]; exact ⟨h, a⟩
theorem sz_lst {n : Nat} {l : List D} (h : l.length ≤ n) (a : ∀ x ∈ l, szD n x) : szD n (.lst l) := by rw [s_lst]; exact ⟨h, a⟩
theorem sz_w {n : Nat} {w : List Nat} (h : wdW w) (hn : 60 ≤ n) : szD n (.str w) := (wdW_sz h).mono hn
theorem sz_i {n : Nat} {i : Int} (h1 : -(n : Int) ≤ i) (h2 : i ≤ n) : szD n (.int i) := by rw [s_int]; exact ⟨h1, h2⟩
theorem sz_c {n : Nat} {l : List Nat} (h : l.length ≤ n) (a : ∀ c ∈ l, c < 1114112) : szD n (.str l) := by rw [s_str]; exact ⟨h, a⟩
theorem all_nil {P : D → Prop} : ∀ x ∈ ([] : List D), P x := fun x h => by cases h
theorem all_cons {P : D → Prop} {a : D} {l : List D} (h : P a) (h2 : ∀ x ∈ l, P x) : ∀ x ∈ a :: l, P x := fun x hx => by
  rcases List.mem_cons.mp hx with rfl | hx
  · exact h
  · exact h2 x hx
theorem dep1 {l : List D} (h : ∀ x ∈ l, depD x ≤ 0) : depD (.tup l) ≤ 1 := by rw [d_tup]; have := depDs_max h; omega

theorem sz_n {n m : Nat} (h : m ≤ n) : szD n (.int (m : Nat)) := by rw [s_int]; exact ⟨by omega, by omega⟩
mutual
theorem chD_sz {n : Nat} : ∀ {d : D}, szD n d → chD d = true
  | .non, _ => rfl
  | .bl _, _ => rfl
  | .int _, _ => rfl
  | .str l, h => by
    rw [s_str] at h
    rw [chD, List.all_eq_true]
    intro c hc
    simpa using h.2 c hc
  | .lst l, h => by rw [szD] at h; rw [chD]; exact chDs_sz h.2
  | .tup l, h => by rw [szD] at h; rw [chD]; exact chDs_sz h.2
theorem chDs_sz {n : Nat} : ∀ {l : List D}, szDs n l → chDs l = true
  | [], _ => rfl
  | x :: l, h => by rw [szDs] at h; rw [chDs, chD_sz h.1, chDs_sz h.2]; rfl
end
theorem shp_sz {n : Nat} {d : D} (h : szD n d) (hd : depD d ≤ 64) : shp d = true := by
  unfold shp
  rw [chD_sz h, decide_eq_true hd]
  rfl
theorem eq_sz {n : Nat} {a b : D} (ha : szD n a) (hb : szD n b) (da : depD a ≤ 64) (db : depD b ≤ 64) : opCmp .Eq a b = some (eqv a b) := by
  show eqD a b = _
  unfold eqD
  split
  · rfl
  · rw [shp_sz ha da, shp_sz hb db]
    rfl
theorem ne_sz {n : Nat} {a b : D} (ha : szD n a) (hb : szD n b) (da : depD a ≤ 64) (db : depD b ≤ 64) : opCmp .NotEq a b = some (!eqv a b) := by
  show (eqD a b).map _ = _
  have : eqD a b = _ := eq_sz ha hb da db
  rw [this]
  rfl
theorem eqvs_strs : ∀ {a b : List (List Nat)}, eqvs (a.map .str) (b.map .str) = decide (a = b)
  | [], [] => rfl
  | [], _ :: _ => rfl
  | _ :: _, [] => rfl
  | x :: a, y :: b => by
    rw [List.map_cons, List.map_cons, eqvs, eqv_sm, eqvs_strs, Bool.eq_iff_iff]
    simp
theorem sz_strs {n : Nat} {l : List (List Nat)} (hl : l.length ≤ n) (h : ∀ w ∈ l, w.length ≤ n ∧ ∀ c ∈ w, c < 1114112) : szD n (.lst (l.map .str)) := by
  refine sz_lst (by simpa using hl) fun x hx => ?_
  obtain ⟨w, hw, rfl⟩ := List.mem_map.mp hx
  rw [s_str]
  exact h w hw
theorem dep_strs {l : List (List Nat)} : depD (.lst (l.map .str)) ≤ 64 := by
  rw [depD]
  have := depDs_str l
  omega
theorem eq_strs {n : Nat} {a b : List (List Nat)} (ha : szD n (.lst (a.map .str))) (hb : szD n (.lst (b.map .str))) : opCmp .Eq (.lst (a.map .str)) (.lst (b.map .str)) = some (decide (a = b)) := by
  rw [eq_sz ha hb dep_strs dep_strs]
  show some (eqvs _ _) = _
  rw [eqvs_strs]
theorem ne_strs {n : Nat} {a b : List (List Nat)} (ha : szD n (.lst (a.map .str))) (hb : szD n (.lst (b.map .str))) : opCmp .NotEq (.lst (a.map .str)) (.lst (b.map .str)) = some (!decide (a = b)) := by
  rw [ne_sz ha hb dep_strs dep_strs]
  show some (!eqvs _ _) = _
  rw [eqvs_strs]
theorem turns_sz {w : List Nat} (h : wdW w) : szD 1000 (.lst ((turnsW w).map .str)) := by
  have h1 := h.1
  refine sz_strs (Nat.le_trans turnsW_len (by omega)) fun u hu => ?_
  obtain ⟨k, _, rfl⟩ := turnsW_mem.mp hu
  exact ⟨by rw [rot_len]; omega, fun c hc => wdW_cp h c (rot_letters.mp hc)⟩

def slO (s : Slot) : Prop := s = .none ∨ ∃ d, s = .val d
/-! ### the first place of a word in another one -/
open Builtin.Str StrLaws in
theorem occ_first (s sub : Str) (hi : Nat) : ∀ (l : List Nat) (free : Nat), (∀ i ∈ l, free ≤ i) →
    (forIn l ((#[] : Array Nat), free) (occBody s sub hi 1)).run.fst.toList = (match l.find? (fun i => decide (i + sub.length ≤ hi) && subAt s sub i) with | some i => [i] | none => [])
  | [], free, _ => rfl
  | a :: l, free, hf => by
    rw [List.forIn_cons, List.find?_cons]
    unfold occBody
    have ha : free ≤ a := hf a (List.mem_cons_self ..)
    by_cases hc : a + sub.length ≤ hi ∧ subAt s sub a = true
    · have c1 : (((#[] : Array Nat), free).fst.size < 1 ∧ ((#[] : Array Nat), free).snd ≤ a) ∧ a + sub.length ≤ hi := ⟨⟨by simp, ha⟩, hc.1⟩
      rw [if_pos ⟨c1, hc.2⟩, decide_eq_true hc.1, hc.2]
      have : ∀ (l : List Nat) (f : Nat), (forIn l ((#[a] : Array Nat), f) (occBody s sub hi 1)).run.fst.toList = [a] := by
        intro l
        induction l with
        | nil => intro f; rfl
        | cons b l ih =>
          intro f
          rw [List.forIn_cons]
          unfold occBody
          rw [if_neg (by simp)]
          exact ih f
      exact this l _
    · have c2 : ¬ (((((#[] : Array Nat), free).fst.size < 1 ∧ ((#[] : Array Nat), free).snd ≤ a) ∧ a + sub.length ≤ hi) ∧ subAt s sub a = true) := fun h => hc ⟨h.1.2, h.2⟩
      rw [if_neg c2]
      have e : (decide (a + sub.length ≤ hi) && subAt s sub a) = false := by
        rw [Bool.eq_false_iff]
        intro h
        rw [Bool.and_eq_true, decide_eq_true_eq] at h
        exact hc h
      rw [e]
      exact occ_first s sub hi l free fun i hi' => hf i (List.mem_cons_of_mem _ hi')
/-- where a word stands in another one -/
def atB (x y : List Nat) (i : Nat) : Bool := decide (i + y.length ≤ x.length) && decide ((x.drop i).take y.length = y)
open Builtin.Str StrLaws in
theorem occ_list (x y : List Nat) (i : Nat) : occurrences (mkS x) (mkS y) i x.length 1 = (match (List.range' i (x.length + 1 - i)).find? (atB x y) with | some k => [k] | none => []) := by
  rw [occ_eq, occ_first _ _ _ _ _ (fun k hk => by rw [List.mem_range'_1] at hk; exact hk.1)]
  have e : (fun k => decide (k + (mkS y).length ≤ x.length) && subAt (mkS x) (mkS y) k) = atB x y := by
    funext k
    rw [subAt_eq]
    unfold atB
    congr 1
    rw [Bool.eq_iff_iff]
    show (((x.drop k).take y.length == y) = true) ↔ _
    simp
  rw [e]
theorem find3_ev {x y : List Nat} {i : Nat} : opMe .find (.str x) [.str y, .int (i : Nat)] = some (.int (match (List.range' i (x.length + 1 - i)).find? (atB x y) with | some k => (k : Int) | none => -1)) := by
  show some (D.int (Txt.find3 (mkS x) (mkS y) i)) = _
  unfold Txt.find3
  have e : fromIndex (mkS x).length (i : Int) = i := by
    unfold fromIndex
    rw [if_neg (by omega)]
    omega
  have e2 : (mkS x).length = x.length := by simp [mkS, Str.length]
  rw [e, e2, occ_list]
  cases (List.range' i (x.length + 1 - i)).find? (atB x y) <;> rfl
theorem in_word {x y : List Nat} : (!(Builtin.Str.occurrences (mkS x) (mkS y) 0 (mkS x).length 1).isEmpty) = (List.range' 0 (x.length + 1)).any (atB x y) := by
  have e2 : (mkS x).length = x.length := by simp [mkS, Str.length]
  rw [e2, occ_list, Nat.sub_zero]
  cases h : (List.range' 0 (x.length + 1)).find? (atB x y) with
  | none =>
    rw [List.find?_eq_none] at h
    symm
    show _ = false
    rw [List.any_eq_false]
    exact h
  | some k =>
    symm
    show _ = true
    rw [List.any_eq_true]
    exact ⟨k, List.mem_of_find?_eq_some h, List.find?_some h⟩
end
end Pu
set_option Elab.async false
set_option linter.all false
set_option maxRecDepth 100000
set_option maxHeartbeats 1000000
namespace Pu
open PySem PySem.Spec PyProof.Rows L2 Wd

/-! ### borders and periods -/
def bordersW (w : List Nat) : List Nat := (List.range' 0 w.length).filter fun k => decide (w.take k = w.drop (w.length - k))
def periodsW (w : List Nat) : List Nat := (List.range' 1 w.length).filter fun p => decide (apN w p = 0)
def periodW (w : List Nat) : Nat := (periodsW w).headD 0
section
variable {w : List Nat} {pl : Pool}
theorem per_drop {p : Nat} (hp : p ≤ w.length) : PerL w p ↔ w.take (w.length - p) = w.drop p := by
  constructor
  · intro h
    apply List.ext_getElem?
    intro i
    by_cases hi : i < w.length - p
    · rw [List.getElem?_take_of_lt hi, List.getElem?_drop, Nat.add_comm]
      exact h i (by omega)
    · rw [List.getElem?_eq_none (by rw [List.length_take]; omega), List.getElem?_eq_none (by rw [List.length_drop]; omega)]
  · intro h i hi
    have : (w.take (w.length - p))[i]? = (w.drop p)[i]? := by rw [h]
    rw [List.getElem?_take_of_lt (by omega), List.getElem?_drop, Nat.add_comm] at this
    exact this
theorem rev_range (n : Nat) : (List.range' 0 n).reverse.map (fun k => n - k) = List.range' 1 n := by
  rw [List.reverse_range', List.map_map, List.range'_eq_map_range]
  apply List.map_congr_left
  intro k hk
  rw [List.mem_range] at hk
  show n - (0 + n - 1 - k) = 1 + k
  omega
theorem periods_borders : (bordersW w).reverse.map (fun k => w.length - k) = periodsW w := by
  unfold bordersW periodsW
  rw [← List.filter_reverse, ← rev_range w.length, List.filter_map]
  congr 1
  apply List.filter_congr
  intro k hk
  rw [List.mem_reverse, List.mem_range'_1] at hk
  show _ = decide (apN w (w.length - k) = 0)
  rw [decide_eq_decide, apN_zero, per_drop (by omega)]
  have e : w.length - (w.length - k) = k := by omega
  rw [e]
theorem periodsW_mem {p : Nat} : p ∈ periodsW w ↔ 1 ≤ p ∧ p ≤ w.length ∧ PerL w p := by
  unfold periodsW
  rw [List.mem_filter, List.mem_range'_1, decide_eq_true_eq, apN_zero]
  constructor
  · rintro ⟨⟨a, b⟩, c⟩
    exact ⟨a, by omega, c⟩
  · rintro ⟨a, b, c⟩
    exact ⟨⟨a, by omega⟩, c⟩
theorem bordersW_mem {k : Nat} : k ∈ bordersW w ↔ k < w.length ∧ PerL w (w.length - k) := by
  unfold bordersW
  rw [List.mem_filter, List.mem_range'_1, decide_eq_true_eq]
  constructor
  · rintro ⟨a, b⟩
    refine ⟨by omega, (per_drop (by omega)).mpr ?_⟩
    have e : w.length - (w.length - k) = k := by omega
    rw [e]
    exact b
  · rintro ⟨a, b⟩
    have := (per_drop (by omega)).mp b
    have e : w.length - (w.length - k) = k := by omega
    rw [e] at this
    exact ⟨⟨by omega, by omega⟩, this⟩
theorem periodsW_cons (h : w ≠ []) : ∃ t, periodsW w = periodW w :: t := by
  have hl : 0 < w.length := List.length_pos_iff.mpr h
  have : w.length ∈ periodsW w := periodsW_mem.mpr ⟨hl, Nat.le_refl _, per_full⟩
  unfold periodW
  cases e : periodsW w with
  | nil => rw [e] at this; cases this
  | cons a t => exact ⟨t, rfl⟩
structure PdS (w : List Nat) : Prop where
  pos : 0 < periodW w
  le : periodW w ≤ w.length
  per : PerL w (periodW w)
  least : ∀ p, 0 < p → PerL w p → periodW w ≤ p
theorem range_lt {a n : Nat} : (List.range' a n).Pairwise (· < ·) := List.pairwise_lt_range'
theorem period_spec (h : w ≠ []) : PdS w := by
  obtain ⟨t, ht⟩ := periodsW_cons h
  have hm : periodW w ∈ periodsW w := by rw [ht]; exact List.mem_cons_self
  obtain ⟨a, b, c⟩ := periodsW_mem.mp hm
  refine ⟨a, b, c, fun p hp hpp => ?_⟩
  by_cases hpl : p ≤ w.length
  · have h2 : p ∈ periodsW w := periodsW_mem.mpr ⟨hp, hpl, hpp⟩
    have hs : (periodsW w).Pairwise (· < ·) := range_lt.filter _
    rw [ht] at hs h2
    rcases List.mem_cons.mp h2 with rfl | h2
    · exact Nat.le_refl _
    · exact Nat.le_of_lt ((List.pairwise_cons.mp hs).1 p h2)
  · omega
theorem period_nil : periodW [] = 0 := rfl
theorem periodsW_len : (periodsW w).length ≤ w.length := by
  have := List.length_filter_le (fun p => decide (apN w p = 0)) (List.range' 1 w.length)
  rw [List.length_range'] at this
  exact this
theorem bordersW_len : (bordersW w).length ≤ w.length := by
  have := List.length_filter_le (fun k => decide (w.take k = w.drop (w.length - k))) (List.range' 0 w.length)
  rw [List.length_range'] at this
  exact this
def natsD (l : List Nat) : List D := l.map fun k => .int (k : Nat)

def b_borders : Sts := (.cons (.ret (.lc 1 (.rng (.cons (.bi .len (.cons (.var 0) .nil)) .nil)) (.yes (.cmp .Eq (.sl (.var 0) .no (.yes (.var 1))) (.sl (.var 0) (.yes (.bin .Sub (.bi .len (.cons (.var 0) .nil)) (.var 1))) .no))) (.var 1))) .nil)
def F_borders : Fnc := fun ds pl => evD fuel b_borders 2 false ds pl
def b_periods : Sts := (.cons (.ret (.lc 1 (.ex (.rev (.call "borders" 1 F_borders (.cons (.var 0) .nil)))) .no (.bin .Sub (.bi .len (.cons (.var 0) .nil)) (.var 1)))) .nil)
def F_periods : Fnc := fun ds pl => evD fuel b_periods 2 false ds pl
def b_period : Sts := (.cons (.ret (.ite (.cmp .Gt (.bi .len (.cons (.var 0) .nil)) (.con (.int 0))) (.sub (.call "periods" 1 F_periods (.cons (.var 0) .nil)) (.con (.int 0))) (.con (.int 0)))) .nil)
def F_period : Fnc := fun ds pl => evD fuel b_period 1 false ds pl
theorem borders_ev (hw : w.length ≤ 1000) : F_borders [.str w] pl = some (.lst (natsD (bordersW w)), pl) := by
  unfold F_borders b_borders
  have e := lc_rngF (turn := lcTurn 1 (.yes (.cmp .Eq (.sl (.var 0) .no (.yes (.var 1))) (.sl (.var 0) (.yes (.bin .Sub (.bi .len (.cons (.var 0) .nil)) (.var 1))) .no))) (.var 1) [.val (.str w), .none]) (a := 0) (n := w.length) (pl := pl) (p := fun k => decide (w.take k = w.drop (w.length - k))) (g := fun k => .int (k : Nat)) (fun k _ hk => by
    simp (disch := omega) only [gd_T, e_con, e_glob, e_var, rd_val, rd_own, e_bin, bin1_s, bin2_s, e_neg, neg1_s, e_cmp, cmp1_s, cmp2_s, e_chn, chn1_s, chn2_s, chn3_s, e_isK, isK1_s, e_bools, b_last, b_more, bolC_s, bolD_s, e_not, not1_s, e_ite, ite1_s, ite2_s, es_nil, es_cons, es1_s, es2_s, e_tup, e_lst, tup1_s, lst1_s,
 e_sub, sub1_s, sub2_s, o_none, o_some, o1_s, e_sl, sl1_s, sl2_s, sl3_s, e_rev, rev1_s, e_call, call1_s, e_callP, callP1_s, e_bi, bi1_s, e_me, me1_s, me2_s, e_isi, isi1_s, w_rngE, rng1_s, w_exE, wlk1_s, prL_some, walk_lst, walk_tup, walk_str, e_lc, lc1_s, lc2_s, e_lcP, lcP1_s, e_lc2, lcD1_s, e_lrng, lrng1_s, lrng2_s, e_sset, sset1_s, sset2_s, wipeE_nil, wipeE_cons, t_ev, tst1_s, ss_nil, ss_cons, seq_nx, seq_rt, seq_bk, seq_ct, seq_ite,
 s_asgV, s_asgO, asgV_s, asgO_s, settle_t, settle_c, frz_nil, frz_val, frz_none, frz_pool, frz_own, n_non, n_bl, n_int, n_str, n_lst, n_tup, n_nil, n_cons, s_unp, unp1_s, s_parE, par1_s, setAll_nil, setAll_cons, s_aug, aug1_s, aug2_i, aug2_t, aug3_s, s_app, app1_s, app2_s, s_ret, ret1_s, ret1_ite, s_if, if1_s, s_for, s_forT, for1_s, turnF_s, turnT_s, s_brk, s_cnt, s_pass, frzW_rng, frzW_ex,
 d_ev, d_nx, d_rt, d_ite, and_pure, or_pure, tru_bl, tru_int, tru_non, tru_str, tru_lst, tru_tup, pr_some, pr_gd, prB_some, prT_some, iniE, lawE, List.getElem?_cons_zero, List.getElem?_cons_succ, List.getElem?_nil, List.set_cons_zero, List.set_cons_succ, List.set_nil, List.map_cons, List.map_nil, List.nil_append, List.cons_append, List.append_nil, List.length_cons, List.length_nil, Nat.zero_le, Nat.reduceLeDiff, Nat.reduceAdd, List.replicate, ite_true, ite_false, if_true, if_false, Bool.false_eq_true, reduceIte, reduceCtorEq, ite_self, Bool.true_and, Bool.and_true, Bool.not_true, Bool.not_false, Bool.not_not, Option.map_some, Option.map_none, Pu.sizeLine_eq, cmp_ge, cmp_gt, cmp_le, cmp_lt, eq_i, eq_s, eq_b, ne_i, ne_s, ne_b, in_c, nin_c, op_add_i, op_add_s, op_add_t, op_add_l, op_sub_i, op_mul_r, op_mul_l, op_div_i, op_mod_i, bi_int, bi_intb, len_s, len_l, len_t, bi_list_t, bi_list_l, bi_tuple_t, bi_tuple_l, bi_min2, bi_max2, rev_s, rev_l, rev_t, sub_l, sub_t, sub_s, sl_l, sl_t, sl_s, at0, at1, at2, at3, lct_no, lct_yes, lctP_nm, l2T_nm, l2t1_s, ix_nm, ix_tp, lct1_s, lct2_s, lct3_s, gd_pos, subN, cut_hi, cut_lo, beqL])
  have hl : (bordersW w).length ≤ 16777216 := Nat.le_trans bordersW_len (by omega)
  have e : lcGo _ _ pl = some (natsD (bordersW w), pl) := e
  have hl2 : (natsD (bordersW w)).length ≤ 16777216 := by unfold natsD; rw [List.length_map]; exact hl
  simp (disch := omega) only [gd_T, e_con, e_glob, e_var, rd_val, rd_own, e_bin, bin1_s, bin2_s, e_neg, neg1_s, e_cmp, cmp1_s, cmp2_s, e_chn, chn1_s, chn2_s, chn3_s, e_isK, isK1_s, e_bools, b_last, b_more, bolC_s, bolD_s, e_not, not1_s, e_ite, ite1_s, ite2_s, es_nil, es_cons, es1_s, es2_s, e_tup, e_lst, tup1_s, lst1_s,
 e_sub, sub1_s, sub2_s, o_none, o_some, o1_s, e_sl, sl1_s, sl2_s, sl3_s, e_rev, rev1_s, e_call, call1_s, e_callP, callP1_s, e_bi, bi1_s, e_me, me1_s, me2_s, e_isi, isi1_s, w_rngE, rng1_s, w_exE, wlk1_s, prL_some, walk_lst, walk_tup, walk_str, e_lc, lc1_s, lc2_s, e_lcP, lcP1_s, e_lc2, lcD1_s, e_lrng, lrng1_s, lrng2_s, e_sset, sset1_s, sset2_s, wipeE_nil, wipeE_cons, t_ev, tst1_s, ss_nil, ss_cons, seq_nx, seq_rt, seq_bk, seq_ct, seq_ite,
 s_asgV, s_asgO, asgV_s, asgO_s, settle_t, settle_c, frz_nil, frz_val, frz_none, frz_pool, frz_own, n_non, n_bl, n_int, n_str, n_lst, n_tup, n_nil, n_cons, s_unp, unp1_s, s_parE, par1_s, setAll_nil, setAll_cons, s_aug, aug1_s, aug2_i, aug2_t, aug3_s, s_app, app1_s, app2_s, s_ret, ret1_s, ret1_ite, s_if, if1_s, s_for, s_forT, for1_s, turnF_s, turnT_s, s_brk, s_cnt, s_pass, frzW_rng, frzW_ex,
 d_ev, d_nx, d_rt, d_ite, and_pure, or_pure, tru_bl, tru_int, tru_non, tru_str, tru_lst, tru_tup, pr_some, pr_gd, prB_some, prT_some, iniE, lawE, List.getElem?_cons_zero, List.getElem?_cons_succ, List.getElem?_nil, List.set_cons_zero, List.set_cons_succ, List.set_nil, List.map_cons, List.map_nil, List.nil_append, List.cons_append, List.append_nil, List.length_cons, List.length_nil, Nat.zero_le, Nat.reduceLeDiff, Nat.reduceAdd, List.replicate, ite_true, ite_false, if_true, if_false, Bool.false_eq_true, reduceIte, reduceCtorEq, ite_self, Bool.true_and, Bool.and_true, Bool.not_true, Bool.not_false, Bool.not_not, Option.map_some, Option.map_none, Pu.sizeLine_eq, cmp_ge, cmp_gt, cmp_le, cmp_lt, eq_i, eq_s, eq_b, ne_i, ne_s, ne_b, in_c, nin_c, op_add_i, op_add_s, op_add_t, op_add_l, op_sub_i, op_mul_r, op_mul_l, op_div_i, op_mod_i, bi_int, bi_intb, len_s, len_l, len_t, bi_list_t, bi_list_l, bi_tuple_t, bi_tuple_l, bi_min2, bi_max2, rev_s, rev_l, rev_t, sub_l, sub_t, sub_s, sl_l, sl_t, sl_s, at0, at1, at2, at3, lct_no, lct_yes, lctP_nm, l2T_nm, l2t1_s, ix_nm, ix_tp, lct1_s, lct2_s, lct3_s, gd_pos, rngL_nat, rngD_A, e, hl2]
theorem periods_ev (hw : w.length ≤ 1000) : F_periods [.str w] pl = some (.lst (natsD (periodsW w)), pl) := by
  unfold F_periods b_periods
  have e := lc_map (turn := lcTurn 1 .no (.bin .Sub (.bi .len (.cons (.var 0) .nil)) (.var 1)) [.val (.str w), .none]) (pl := pl) (ds := (natsD (bordersW w)).reverse) (g := fun x => match x with | .int i => .int ((w.length : Int) - i) | _ => .non) (fun x hx => by
    rw [List.mem_reverse] at hx
    obtain ⟨k, hk, rfl⟩ := List.mem_map.mp hx
    simp (disch := omega) only [gd_T, e_con, e_glob, e_var, rd_val, rd_own, e_bin, bin1_s, bin2_s, e_neg, neg1_s, e_cmp, cmp1_s, cmp2_s, e_chn, chn1_s, chn2_s, chn3_s, e_isK, isK1_s, e_bools, b_last, b_more, bolC_s, bolD_s, e_not, not1_s, e_ite, ite1_s, ite2_s, es_nil, es_cons, es1_s, es2_s, e_tup, e_lst, tup1_s, lst1_s,
 e_sub, sub1_s, sub2_s, o_none, o_some, o1_s, e_sl, sl1_s, sl2_s, sl3_s, e_rev, rev1_s, e_call, call1_s, e_callP, callP1_s, e_bi, bi1_s, e_me, me1_s, me2_s, e_isi, isi1_s, w_rngE, rng1_s, w_exE, wlk1_s, prL_some, walk_lst, walk_tup, walk_str, e_lc, lc1_s, lc2_s, e_lcP, lcP1_s, e_lc2, lcD1_s, e_lrng, lrng1_s, lrng2_s, e_sset, sset1_s, sset2_s, wipeE_nil, wipeE_cons, t_ev, tst1_s, ss_nil, ss_cons, seq_nx, seq_rt, seq_bk, seq_ct, seq_ite,
 s_asgV, s_asgO, asgV_s, asgO_s, settle_t, settle_c, frz_nil, frz_val, frz_none, frz_pool, frz_own, n_non, n_bl, n_int, n_str, n_lst, n_tup, n_nil, n_cons, s_unp, unp1_s, s_parE, par1_s, setAll_nil, setAll_cons, s_aug, aug1_s, aug2_i, aug2_t, aug3_s, s_app, app1_s, app2_s, s_ret, ret1_s, ret1_ite, s_if, if1_s, s_for, s_forT, for1_s, turnF_s, turnT_s, s_brk, s_cnt, s_pass, frzW_rng, frzW_ex,
 d_ev, d_nx, d_rt, d_ite, and_pure, or_pure, tru_bl, tru_int, tru_non, tru_str, tru_lst, tru_tup, pr_some, pr_gd, prB_some, prT_some, iniE, lawE, List.getElem?_cons_zero, List.getElem?_cons_succ, List.getElem?_nil, List.set_cons_zero, List.set_cons_succ, List.set_nil, List.map_cons, List.map_nil, List.nil_append, List.cons_append, List.append_nil, List.length_cons, List.length_nil, Nat.zero_le, Nat.reduceLeDiff, Nat.reduceAdd, List.replicate, ite_true, ite_false, if_true, if_false, Bool.false_eq_true, reduceIte, reduceCtorEq, ite_self, Bool.true_and, Bool.and_true, Bool.not_true, Bool.not_false, Bool.not_not, Option.map_some, Option.map_none, Pu.sizeLine_eq, cmp_ge, cmp_gt, cmp_le, cmp_lt, eq_i, eq_s, eq_b, ne_i, ne_s, ne_b, in_c, nin_c, op_add_i, op_add_s, op_add_t, op_add_l, op_sub_i, op_mul_r, op_mul_l, op_div_i, op_mod_i, bi_int, bi_intb, len_s, len_l, len_t, bi_list_t, bi_list_l, bi_tuple_t, bi_tuple_l, bi_min2, bi_max2, rev_s, rev_l, rev_t, sub_l, sub_t, sub_s, sl_l, sl_t, sl_s, at0, at1, at2, at3, lct_no, lct_yes, lctP_nm, l2T_nm, l2t1_s, ix_nm, ix_tp, lct1_s, lct2_s, lct3_s, gd_pos])
  have e2 : (natsD (bordersW w)).reverse.map (fun x => match x with | .int i => .int ((w.length : Int) - i) | _ => .non) = natsD (periodsW w) := by
    rw [← periods_borders]
    unfold natsD
    rw [← List.map_reverse, List.map_map, List.map_map]
    apply List.map_congr_left
    intro k hk
    rw [List.mem_reverse] at hk
    have := (bordersW_mem.mp hk).1
    show D.int ((w.length : Int) - (k : Int)) = D.int ((w.length - k : Nat) : Int)
    congr 1
    omega
  rw [e2] at e
  have hl2 : (natsD (periodsW w)).length ≤ 16777216 := by unfold natsD; rw [List.length_map]; exact Nat.le_trans periodsW_len (by omega)
  simp (disch := omega) only [gd_T, e_con, e_glob, e_var, rd_val, rd_own, e_bin, bin1_s, bin2_s, e_neg, neg1_s, e_cmp, cmp1_s, cmp2_s, e_chn, chn1_s, chn2_s, chn3_s, e_isK, isK1_s, e_bools, b_last, b_more, bolC_s, bolD_s, e_not, not1_s, e_ite, ite1_s, ite2_s, es_nil, es_cons, es1_s, es2_s, e_tup, e_lst, tup1_s, lst1_s,
 e_sub, sub1_s, sub2_s, o_none, o_some, o1_s, e_sl, sl1_s, sl2_s, sl3_s, e_rev, rev1_s, e_call, call1_s, e_callP, callP1_s, e_bi, bi1_s, e_me, me1_s, me2_s, e_isi, isi1_s, w_rngE, rng1_s, w_exE, wlk1_s, prL_some, walk_lst, walk_tup, walk_str, e_lc, lc1_s, lc2_s, e_lcP, lcP1_s, e_lc2, lcD1_s, e_lrng, lrng1_s, lrng2_s, e_sset, sset1_s, sset2_s, wipeE_nil, wipeE_cons, t_ev, tst1_s, ss_nil, ss_cons, seq_nx, seq_rt, seq_bk, seq_ct, seq_ite,
 s_asgV, s_asgO, asgV_s, asgO_s, settle_t, settle_c, frz_nil, frz_val, frz_none, frz_pool, frz_own, n_non, n_bl, n_int, n_str, n_lst, n_tup, n_nil, n_cons, s_unp, unp1_s, s_parE, par1_s, setAll_nil, setAll_cons, s_aug, aug1_s, aug2_i, aug2_t, aug3_s, s_app, app1_s, app2_s, s_ret, ret1_s, ret1_ite, s_if, if1_s, s_for, s_forT, for1_s, turnF_s, turnT_s, s_brk, s_cnt, s_pass, frzW_rng, frzW_ex,
 d_ev, d_nx, d_rt, d_ite, and_pure, or_pure, tru_bl, tru_int, tru_non, tru_str, tru_lst, tru_tup, pr_some, pr_gd, prB_some, prT_some, iniE, lawE, List.getElem?_cons_zero, List.getElem?_cons_succ, List.getElem?_nil, List.set_cons_zero, List.set_cons_succ, List.set_nil, List.map_cons, List.map_nil, List.nil_append, List.cons_append, List.append_nil, List.length_cons, List.length_nil, Nat.zero_le, Nat.reduceLeDiff, Nat.reduceAdd, List.replicate, ite_true, ite_false, if_true, if_false, Bool.false_eq_true, reduceIte, reduceCtorEq, ite_self, Bool.true_and, Bool.and_true, Bool.not_true, Bool.not_false, Bool.not_not, Option.map_some, Option.map_none, Pu.sizeLine_eq, cmp_ge, cmp_gt, cmp_le, cmp_lt, eq_i, eq_s, eq_b, ne_i, ne_s, ne_b, in_c, nin_c, op_add_i, op_add_s, op_add_t, op_add_l, op_sub_i, op_mul_r, op_mul_l, op_div_i, op_mod_i, bi_int, bi_intb, len_s, len_l, len_t, bi_list_t, bi_list_l, bi_tuple_t, bi_tuple_l, bi_min2, bi_max2, rev_s, rev_l, rev_t, sub_l, sub_t, sub_s, sl_l, sl_t, sl_s, at0, at1, at2, at3, lct_no, lct_yes, lctP_nm, l2T_nm, l2t1_s, ix_nm, ix_tp, lct1_s, lct2_s, lct3_s, gd_pos, borders_ev hw, e, hl2]
theorem period_ev (hw : w.length ≤ 1000) : F_period [.str w] pl = some (.int (periodW w : Nat), pl) := by
  unfold F_period b_period
  by_cases h : w = []
  · subst h
    simp +decide (disch := omega) only [gd_T, e_con, e_glob, e_var, rd_val, rd_own, e_bin, bin1_s, bin2_s, e_neg, neg1_s, e_cmp, cmp1_s, cmp2_s, e_chn, chn1_s, chn2_s, chn3_s, e_isK, isK1_s, e_bools, b_last, b_more, bolC_s, bolD_s, e_not, not1_s, e_ite, ite1_s, ite2_s, es_nil, es_cons, es1_s, es2_s, e_tup, e_lst, tup1_s, lst1_s,
 e_sub, sub1_s, sub2_s, o_none, o_some, o1_s, e_sl, sl1_s, sl2_s, sl3_s, e_rev, rev1_s, e_call, call1_s, e_callP, callP1_s, e_bi, bi1_s, e_me, me1_s, me2_s, e_isi, isi1_s, w_rngE, rng1_s, w_exE, wlk1_s, prL_some, walk_lst, walk_tup, walk_str, e_lc, lc1_s, lc2_s, e_lcP, lcP1_s, e_lc2, lcD1_s, e_lrng, lrng1_s, lrng2_s, e_sset, sset1_s, sset2_s, wipeE_nil, wipeE_cons, t_ev, tst1_s, ss_nil, ss_cons, seq_nx, seq_rt, seq_bk, seq_ct, seq_ite,
 s_asgV, s_asgO, asgV_s, asgO_s, settle_t, settle_c, frz_nil, frz_val, frz_none, frz_pool, frz_own, n_non, n_bl, n_int, n_str, n_lst, n_tup, n_nil, n_cons, s_unp, unp1_s, s_parE, par1_s, setAll_nil, setAll_cons, s_aug, aug1_s, aug2_i, aug2_t, aug3_s, s_app, app1_s, app2_s, s_ret, ret1_s, ret1_ite, s_if, if1_s, s_for, s_forT, for1_s, turnF_s, turnT_s, s_brk, s_cnt, s_pass, frzW_rng, frzW_ex,
 d_ev, d_nx, d_rt, d_ite, and_pure, or_pure, tru_bl, tru_int, tru_non, tru_str, tru_lst, tru_tup, pr_some, pr_gd, prB_some, prT_some, iniE, lawE, List.getElem?_cons_zero, List.getElem?_cons_succ, List.getElem?_nil, List.set_cons_zero, List.set_cons_succ, List.set_nil, List.map_cons, List.map_nil, List.nil_append, List.cons_append, List.append_nil, List.length_cons, List.length_nil, Nat.zero_le, Nat.reduceLeDiff, Nat.reduceAdd, List.replicate, ite_true, ite_false, if_true, if_false, Bool.false_eq_true, reduceIte, reduceCtorEq, ite_self, Bool.true_and, Bool.and_true, Bool.not_true, Bool.not_false, Bool.not_not, Option.map_some, Option.map_none, Pu.sizeLine_eq, cmp_ge, cmp_gt, cmp_le, cmp_lt, eq_i, eq_s, eq_b, ne_i, ne_s, ne_b, in_c, nin_c, op_add_i, op_add_s, op_add_t, op_add_l, op_sub_i, op_mul_r, op_mul_l, op_div_i, op_mod_i, bi_int, bi_intb, len_s, len_l, len_t, bi_list_t, bi_list_l, bi_tuple_t, bi_tuple_l, bi_min2, bi_max2, rev_s, rev_l, rev_t, sub_l, sub_t, sub_s, sl_l, sl_t, sl_s, at0, at1, at2, at3, lct_no, lct_yes, lctP_nm, l2T_nm, l2t1_s, ix_nm, ix_tp, lct1_s, lct2_s, lct3_s, gd_pos, decide_false]
    rfl
  · obtain ⟨t, ht⟩ := periodsW_cons h
    have hl : 0 < w.length := List.length_pos_iff.mpr h
    have e : natsD (periodsW w) = .int (periodW w : Nat) :: natsD t := by rw [ht]; rfl
    simp (disch := omega) only [gd_T, e_con, e_glob, e_var, rd_val, rd_own, e_bin, bin1_s, bin2_s, e_neg, neg1_s, e_cmp, cmp1_s, cmp2_s, e_chn, chn1_s, chn2_s, chn3_s, e_isK, isK1_s, e_bools, b_last, b_more, bolC_s, bolD_s, e_not, not1_s, e_ite, ite1_s, ite2_s, es_nil, es_cons, es1_s, es2_s, e_tup, e_lst, tup1_s, lst1_s,
 e_sub, sub1_s, sub2_s, o_none, o_some, o1_s, e_sl, sl1_s, sl2_s, sl3_s, e_rev, rev1_s, e_call, call1_s, e_callP, callP1_s, e_bi, bi1_s, e_me, me1_s, me2_s, e_isi, isi1_s, w_rngE, rng1_s, w_exE, wlk1_s, prL_some, walk_lst, walk_tup, walk_str, e_lc, lc1_s, lc2_s, e_lcP, lcP1_s, e_lc2, lcD1_s, e_lrng, lrng1_s, lrng2_s, e_sset, sset1_s, sset2_s, wipeE_nil, wipeE_cons, t_ev, tst1_s, ss_nil, ss_cons, seq_nx, seq_rt, seq_bk, seq_ct, seq_ite,
 s_asgV, s_asgO, asgV_s, asgO_s, settle_t, settle_c, frz_nil, frz_val, frz_none, frz_pool, frz_own, n_non, n_bl, n_int, n_str, n_lst, n_tup, n_nil, n_cons, s_unp, unp1_s, s_parE, par1_s, setAll_nil, setAll_cons, s_aug, aug1_s, aug2_i, aug2_t, aug3_s, s_app, app1_s, app2_s, s_ret, ret1_s, ret1_ite, s_if, if1_s, s_for, s_forT, for1_s, turnF_s, turnT_s, s_brk, s_cnt, s_pass, frzW_rng, frzW_ex,
 d_ev, d_nx, d_rt, d_ite, and_pure, or_pure, tru_bl, tru_int, tru_non, tru_str, tru_lst, tru_tup, pr_some, pr_gd, prB_some, prT_some, iniE, lawE, List.getElem?_cons_zero, List.getElem?_cons_succ, List.getElem?_nil, List.set_cons_zero, List.set_cons_succ, List.set_nil, List.map_cons, List.map_nil, List.nil_append, List.cons_append, List.append_nil, List.length_cons, List.length_nil, Nat.zero_le, Nat.reduceLeDiff, Nat.reduceAdd, List.replicate, ite_true, ite_false, if_true, if_false, Bool.false_eq_true, reduceIte, reduceCtorEq, ite_self, Bool.true_and, Bool.and_true, Bool.not_true, Bool.not_false, Bool.not_not, Option.map_some, Option.map_none, Pu.sizeLine_eq, cmp_ge, cmp_gt, cmp_le, cmp_lt, eq_i, eq_s, eq_b, ne_i, ne_s, ne_b, in_c, nin_c, op_add_i, op_add_s, op_add_t, op_add_l, op_sub_i, op_mul_r, op_mul_l, op_div_i, op_mod_i, bi_int, bi_intb, len_s, len_l, len_t, bi_list_t, bi_list_l, bi_tuple_t, bi_tuple_l, bi_min2, bi_max2, rev_s, rev_l, rev_t, sub_l, sub_t, sub_s, sl_l, sl_t, sl_s, at0, at1, at2, at3, lct_no, lct_yes, lctP_nm, l2T_nm, l2t1_s, ix_nm, ix_tp, lct1_s, lct2_s, lct3_s, gd_pos, ltN0, hl, decide_true, periods_ev hw, e]
def b_has_period : Sts := (.cons (.ret (.bi .all (.cons (.lc 2 (.rng (.cons (.bin .Sub (.bi .len (.cons (.var 0) .nil)) (.var 1)) .nil)) .no (.cmp .Eq (.sub (.var 0) (.var 2)) (.sub (.var 0) (.bin .Add (.var 2) (.var 1))))) .nil))) .nil)
def F_has_period : Fnc := fun ds pl => evD fuel b_has_period 3 false ds pl
theorem has_period_ev (hw : w.length ≤ 1000) {p : Nat} (hp : p ≤ 100000) : F_has_period [.str w, .int (p : Nat)] pl = some (.bl (decide (apN w p = 0)), pl) := by
  unfold F_has_period b_has_period
  have e0 : rngL [.int ((w.length : Int) - (p : Int))] = some (rngA 0 (w.length - p)) := by
    rw [rngL_int (by omega) (by omega), rngD_A]
    congr 2
    omega
  have e := lc_rngA (turn := lcTurn 2 .no (.cmp .Eq (.sub (.var 0) (.var 2)) (.sub (.var 0) (.bin .Add (.var 2) (.var 1)))) [.val (.str w), .val (.int (p : Nat)), .none]) (a := 0) (n := w.length - p) (pl := pl) (g := fun k => .bl (decide (w[k]? = w[k + p]?))) (fun k _ hk => by
    have h1 : k < w.length := by omega
    have h2 : k + p < w.length := by omega
    simp (disch := omega) only [gd_T, e_con, e_glob, e_var, rd_val, rd_own, e_bin, bin1_s, bin2_s, e_neg, neg1_s, e_cmp, cmp1_s, cmp2_s, e_chn, chn1_s, chn2_s, chn3_s, e_isK, isK1_s, e_bools, b_last, b_more, bolC_s, bolD_s, e_not, not1_s, e_ite, ite1_s, ite2_s, es_nil, es_cons, es1_s, es2_s, e_tup, e_lst, tup1_s, lst1_s,
 e_sub, sub1_s, sub2_s, o_none, o_some, o1_s, e_sl, sl1_s, sl2_s, sl3_s, e_rev, rev1_s, e_call, call1_s, e_callP, callP1_s, e_bi, bi1_s, e_me, me1_s, me2_s, e_isi, isi1_s, w_rngE, rng1_s, w_exE, wlk1_s, prL_some, walk_lst, walk_tup, walk_str, e_lc, lc1_s, lc2_s, e_lcP, lcP1_s, e_lc2, lcD1_s, e_lrng, lrng1_s, lrng2_s, e_sset, sset1_s, sset2_s, wipeE_nil, wipeE_cons, t_ev, tst1_s, ss_nil, ss_cons, seq_nx, seq_rt, seq_bk, seq_ct, seq_ite,
 s_asgV, s_asgO, asgV_s, asgO_s, settle_t, settle_c, frz_nil, frz_val, frz_none, frz_pool, frz_own, n_non, n_bl, n_int, n_str, n_lst, n_tup, n_nil, n_cons, s_unp, unp1_s, s_parE, par1_s, setAll_nil, setAll_cons, s_aug, aug1_s, aug2_i, aug2_t, aug3_s, s_app, app1_s, app2_s, s_ret, ret1_s, ret1_ite, s_if, if1_s, s_for, s_forT, for1_s, turnF_s, turnT_s, s_brk, s_cnt, s_pass, frzW_rng, frzW_ex,
 d_ev, d_nx, d_rt, d_ite, and_pure, or_pure, tru_bl, tru_int, tru_non, tru_str, tru_lst, tru_tup, pr_some, pr_gd, prB_some, prT_some, iniE, lawE, List.getElem?_cons_zero, List.getElem?_cons_succ, List.getElem?_nil, List.set_cons_zero, List.set_cons_succ, List.set_nil, List.map_cons, List.map_nil, List.nil_append, List.cons_append, List.append_nil, List.length_cons, List.length_nil, Nat.zero_le, Nat.reduceLeDiff, Nat.reduceAdd, List.replicate, ite_true, ite_false, if_true, if_false, Bool.false_eq_true, reduceIte, reduceCtorEq, ite_self, Bool.true_and, Bool.and_true, Bool.not_true, Bool.not_false, Bool.not_not, Option.map_some, Option.map_none, Pu.sizeLine_eq, cmp_ge, cmp_gt, cmp_le, cmp_lt, eq_i, eq_s, eq_b, ne_i, ne_s, ne_b, in_c, nin_c, op_add_i, op_add_s, op_add_t, op_add_l, op_sub_i, op_mul_r, op_mul_l, op_div_i, op_mod_i, bi_int, bi_intb, len_s, len_l, len_t, bi_list_t, bi_list_l, bi_tuple_t, bi_tuple_l, bi_min2, bi_max2, rev_s, rev_l, rev_t, sub_l, sub_t, sub_s, sl_l, sl_t, sl_s, at0, at1, at2, at3, lct_no, lct_yes, lctP_nm, l2T_nm, l2t1_s, ix_nm, ix_tp, lct1_s, lct2_s, lct3_s, gd_pos, addN, letS h1, letS h2, beqL, List.getElem?_eq_getElem h1, List.getElem?_eq_getElem h2]
    have : decide ([w[k]] = [w[k + p]]) = decide (some w[k] = some w[k + p]) := by
      rw [Bool.eq_iff_iff]; simp
    rw [this])
  have e2 : (List.range' 0 (w.length - p)).map (fun k => D.bl (decide (w[k]? = w[k + p]?))) = ((List.range' 0 (w.length - p)).map fun k => decide (w[k]? = w[k + p]?)).map D.bl := by rw [List.map_map]; rfl
  rw [e2] at e
  have hq : ((List.range' 0 (w.length - p)).map fun k => decide (w[k]? = w[k + p]?)).all id = decide (apN w p = 0) := by
    rw [Bool.eq_iff_iff, decide_eq_true_eq, List.all_map, List.all_eq_true]
    unfold apN
    rw [List.length_eq_zero_iff, List.filter_eq_nil_iff]
    constructor
    · intro h k hk
      have := h k hk
      simpa using this
    · intro h k hk
      have := h k hk
      simpa using this
  simp (disch := omega) only [gd_T, e_con, e_glob, e_var, rd_val, rd_own, e_bin, bin1_s, bin2_s, e_neg, neg1_s, e_cmp, cmp1_s, cmp2_s, e_chn, chn1_s, chn2_s, chn3_s, e_isK, isK1_s, e_bools, b_last, b_more, bolC_s, bolD_s, e_not, not1_s, e_ite, ite1_s, ite2_s, es_nil, es_cons, es1_s, es2_s, e_tup, e_lst, tup1_s, lst1_s,
 e_sub, sub1_s, sub2_s, o_none, o_some, o1_s, e_sl, sl1_s, sl2_s, sl3_s, e_rev, rev1_s, e_call, call1_s, e_callP, callP1_s, e_bi, bi1_s, e_me, me1_s, me2_s, e_isi, isi1_s, w_rngE, rng1_s, w_exE, wlk1_s, prL_some, walk_lst, walk_tup, walk_str, e_lc, lc1_s, lc2_s, e_lcP, lcP1_s, e_lc2, lcD1_s, e_lrng, lrng1_s, lrng2_s, e_sset, sset1_s, sset2_s, wipeE_nil, wipeE_cons, t_ev, tst1_s, ss_nil, ss_cons, seq_nx, seq_rt, seq_bk, seq_ct, seq_ite,
 s_asgV, s_asgO, asgV_s, asgO_s, settle_t, settle_c, frz_nil, frz_val, frz_none, frz_pool, frz_own, n_non, n_bl, n_int, n_str, n_lst, n_tup, n_nil, n_cons, s_unp, unp1_s, s_parE, par1_s, setAll_nil, setAll_cons, s_aug, aug1_s, aug2_i, aug2_t, aug3_s, s_app, app1_s, app2_s, s_ret, ret1_s, ret1_ite, s_if, if1_s, s_for, s_forT, for1_s, turnF_s, turnT_s, s_brk, s_cnt, s_pass, frzW_rng, frzW_ex,
 d_ev, d_nx, d_rt, d_ite, and_pure, or_pure, tru_bl, tru_int, tru_non, tru_str, tru_lst, tru_tup, pr_some, pr_gd, prB_some, prT_some, iniE, lawE, List.getElem?_cons_zero, List.getElem?_cons_succ, List.getElem?_nil, List.set_cons_zero, List.set_cons_succ, List.set_nil, List.map_cons, List.map_nil, List.nil_append, List.cons_append, List.append_nil, List.length_cons, List.length_nil, Nat.zero_le, Nat.reduceLeDiff, Nat.reduceAdd, List.replicate, ite_true, ite_false, if_true, if_false, Bool.false_eq_true, reduceIte, reduceCtorEq, ite_self, Bool.true_and, Bool.and_true, Bool.not_true, Bool.not_false, Bool.not_not, Option.map_some, Option.map_none, Pu.sizeLine_eq, cmp_ge, cmp_gt, cmp_le, cmp_lt, eq_i, eq_s, eq_b, ne_i, ne_s, ne_b, in_c, nin_c, op_add_i, op_add_s, op_add_t, op_add_l, op_sub_i, op_mul_r, op_mul_l, op_div_i, op_mod_i, bi_int, bi_intb, len_s, len_l, len_t, bi_list_t, bi_list_l, bi_tuple_t, bi_tuple_l, bi_min2, bi_max2, rev_s, rev_l, rev_t, sub_l, sub_t, sub_s, sl_l, sl_t, sl_s, at0, at1, at2, at3, lct_no, lct_yes, lctP_nm, l2T_nm, l2t1_s, ix_nm, ix_tp, lct1_s, lct2_s, lct3_s, gd_pos, e0, e, List.length_map, List.length_range', bi_all, hq]
def b__law_period : Sts := (.cons (.ite (.cmp .Eq (.var 0) (.con (.str []))) (.cons (.ret (.con (.int 0))) .nil) .nil) (.cons (.ret (.sub (.lc 1 (.rng (.cons (.con (.int 1)) (.cons (.bin .Add (.bi .len (.cons (.var 0) .nil)) (.con (.int 1))) .nil))) (.yes (.cmp .Eq (.call "_law_apart" 2 F__law_apart (.cons (.var 0) (.cons (.var 1) .nil))) (.con (.int 0)))) (.var 1)) (.con (.int 0)))) .nil))
def F__law_period : Fnc := fun ds pl => evD fuel b__law_period 2 false ds pl
theorem law_periods_go (hw : w.length ≤ 1000) {i j : Nat} : True := trivial
theorem law_period_ev (hw : w.length ≤ 1000) : F__law_period [.str w] pl = some (.int (periodW w : Nat), pl) := by
  unfold F__law_period b__law_period
  by_cases h : w = []
  · subst h
    simp +decide (disch := omega) only [gd_T, e_con, e_glob, e_var, rd_val, rd_own, e_bin, bin1_s, bin2_s, e_neg, neg1_s, e_cmp, cmp1_s, cmp2_s, e_chn, chn1_s, chn2_s, chn3_s, e_isK, isK1_s, e_bools, b_last, b_more, bolC_s, bolD_s, e_not, not1_s, e_ite, ite1_s, ite2_s, es_nil, es_cons, es1_s, es2_s, e_tup, e_lst, tup1_s, lst1_s,
 e_sub, sub1_s, sub2_s, o_none, o_some, o1_s, e_sl, sl1_s, sl2_s, sl3_s, e_rev, rev1_s, e_call, call1_s, e_callP, callP1_s, e_bi, bi1_s, e_me, me1_s, me2_s, e_isi, isi1_s, w_rngE, rng1_s, w_exE, wlk1_s, prL_some, walk_lst, walk_tup, walk_str, e_lc, lc1_s, lc2_s, e_lcP, lcP1_s, e_lc2, lcD1_s, e_lrng, lrng1_s, lrng2_s, e_sset, sset1_s, sset2_s, wipeE_nil, wipeE_cons, t_ev, tst1_s, ss_nil, ss_cons, seq_nx, seq_rt, seq_bk, seq_ct, seq_ite,
 s_asgV, s_asgO, asgV_s, asgO_s, settle_t, settle_c, frz_nil, frz_val, frz_none, frz_pool, frz_own, n_non, n_bl, n_int, n_str, n_lst, n_tup, n_nil, n_cons, s_unp, unp1_s, s_parE, par1_s, setAll_nil, setAll_cons, s_aug, aug1_s, aug2_i, aug2_t, aug3_s, s_app, app1_s, app2_s, s_ret, ret1_s, ret1_ite, s_if, if1_s, s_for, s_forT, for1_s, turnF_s, turnT_s, s_brk, s_cnt, s_pass, frzW_rng, frzW_ex,
 d_ev, d_nx, d_rt, d_ite, and_pure, or_pure, tru_bl, tru_int, tru_non, tru_str, tru_lst, tru_tup, pr_some, pr_gd, prB_some, prT_some, iniE, lawE, List.getElem?_cons_zero, List.getElem?_cons_succ, List.getElem?_nil, List.set_cons_zero, List.set_cons_succ, List.set_nil, List.map_cons, List.map_nil, List.nil_append, List.cons_append, List.append_nil, List.length_cons, List.length_nil, Nat.zero_le, Nat.reduceLeDiff, Nat.reduceAdd, List.replicate, ite_true, ite_false, if_true, if_false, Bool.false_eq_true, reduceIte, reduceCtorEq, ite_self, Bool.true_and, Bool.and_true, Bool.not_true, Bool.not_false, Bool.not_not, Option.map_some, Option.map_none, Pu.sizeLine_eq, cmp_ge, cmp_gt, cmp_le, cmp_lt, eq_i, eq_s, eq_b, ne_i, ne_s, ne_b, in_c, nin_c, op_add_i, op_add_s, op_add_t, op_add_l, op_sub_i, op_mul_r, op_mul_l, op_div_i, op_mod_i, bi_int, bi_intb, len_s, len_l, len_t, bi_list_t, bi_list_l, bi_tuple_t, bi_tuple_l, bi_min2, bi_max2, rev_s, rev_l, rev_t, sub_l, sub_t, sub_s, sl_l, sl_t, sl_s, at0, at1, at2, at3, lct_no, lct_yes, lctP_nm, l2T_nm, l2t1_s, ix_nm, ix_tp, lct1_s, lct2_s, lct3_s, gd_pos]
    rfl
  · obtain ⟨t, ht⟩ := periodsW_cons h
    have e : natsD (periodsW w) = .int (periodW w : Nat) :: natsD t := by rw [ht]; rfl
    have e2 := lc_rngF (turn := lcTurn 1 (.yes (.cmp .Eq (.call "_law_apart" 2 F__law_apart (.cons (.var 0) (.cons (.var 1) .nil))) (.con (.int 0)))) (.var 1) [.val (.str w), .none]) (a := 1) (n := w.length) (pl := pl) (p := fun p => decide (apN w p = 0)) (g := fun k => .int (k : Nat)) (fun k hk1 hk2 => by
      simp (disch := omega) only [gd_T, e_con, e_glob, e_var, rd_val, rd_own, e_bin, bin1_s, bin2_s, e_neg, neg1_s, e_cmp, cmp1_s, cmp2_s, e_chn, chn1_s, chn2_s, chn3_s, e_isK, isK1_s, e_bools, b_last, b_more, bolC_s, bolD_s, e_not, not1_s, e_ite, ite1_s, ite2_s, es_nil, es_cons, es1_s, es2_s, e_tup, e_lst, tup1_s, lst1_s,
 e_sub, sub1_s, sub2_s, o_none, o_some, o1_s, e_sl, sl1_s, sl2_s, sl3_s, e_rev, rev1_s, e_call, call1_s, e_callP, callP1_s, e_bi, bi1_s, e_me, me1_s, me2_s, e_isi, isi1_s, w_rngE, rng1_s, w_exE, wlk1_s, prL_some, walk_lst, walk_tup, walk_str, e_lc, lc1_s, lc2_s, e_lcP, lcP1_s, e_lc2, lcD1_s, e_lrng, lrng1_s, lrng2_s, e_sset, sset1_s, sset2_s, wipeE_nil, wipeE_cons, t_ev, tst1_s, ss_nil, ss_cons, seq_nx, seq_rt, seq_bk, seq_ct, seq_ite,
 s_asgV, s_asgO, asgV_s, asgO_s, settle_t, settle_c, frz_nil, frz_val, frz_none, frz_pool, frz_own, n_non, n_bl, n_int, n_str, n_lst, n_tup, n_nil, n_cons, s_unp, unp1_s, s_parE, par1_s, setAll_nil, setAll_cons, s_aug, aug1_s, aug2_i, aug2_t, aug3_s, s_app, app1_s, app2_s, s_ret, ret1_s, ret1_ite, s_if, if1_s, s_for, s_forT, for1_s, turnF_s, turnT_s, s_brk, s_cnt, s_pass, frzW_rng, frzW_ex,
 d_ev, d_nx, d_rt, d_ite, and_pure, or_pure, tru_bl, tru_int, tru_non, tru_str, tru_lst, tru_tup, pr_some, pr_gd, prB_some, prT_some, iniE, lawE, List.getElem?_cons_zero, List.getElem?_cons_succ, List.getElem?_nil, List.set_cons_zero, List.set_cons_succ, List.set_nil, List.map_cons, List.map_nil, List.nil_append, List.cons_append, List.append_nil, List.length_cons, List.length_nil, Nat.zero_le, Nat.reduceLeDiff, Nat.reduceAdd, List.replicate, ite_true, ite_false, if_true, if_false, Bool.false_eq_true, reduceIte, reduceCtorEq, ite_self, Bool.true_and, Bool.and_true, Bool.not_true, Bool.not_false, Bool.not_not, Option.map_some, Option.map_none, Pu.sizeLine_eq, cmp_ge, cmp_gt, cmp_le, cmp_lt, eq_i, eq_s, eq_b, ne_i, ne_s, ne_b, in_c, nin_c, op_add_i, op_add_s, op_add_t, op_add_l, op_sub_i, op_mul_r, op_mul_l, op_div_i, op_mod_i, bi_int, bi_intb, len_s, len_l, len_t, bi_list_t, bi_list_l, bi_tuple_t, bi_tuple_l, bi_min2, bi_max2, rev_s, rev_l, rev_t, sub_l, sub_t, sub_s, sl_l, sl_t, sl_s, at0, at1, at2, at3, lct_no, lct_yes, lctP_nm, l2T_nm, l2t1_s, ix_nm, ix_tp, lct1_s, lct2_s, lct3_s, gd_pos, law_apart_ev hw, beqN0])
    have e2 : lcGo _ _ pl = some (natsD (periodsW w), pl) := e2
    rw [e] at e2
    have hl2 : (natsD t).length + 1 ≤ 16777216 := by
      have : (natsD (periodsW w)).length ≤ 16777216 := by unfold natsD; rw [List.length_map]; exact Nat.le_trans periodsW_len (by omega)
      rw [e] at this
      exact this
    simp (disch := omega) only [gd_T, e_con, e_glob, e_var, rd_val, rd_own, e_bin, bin1_s, bin2_s, e_neg, neg1_s, e_cmp, cmp1_s, cmp2_s, e_chn, chn1_s, chn2_s, chn3_s, e_isK, isK1_s, e_bools, b_last, b_more, bolC_s, bolD_s, e_not, not1_s, e_ite, ite1_s, ite2_s, es_nil, es_cons, es1_s, es2_s, e_tup, e_lst, tup1_s, lst1_s,
 e_sub, sub1_s, sub2_s, o_none, o_some, o1_s, e_sl, sl1_s, sl2_s, sl3_s, e_rev, rev1_s, e_call, call1_s, e_callP, callP1_s, e_bi, bi1_s, e_me, me1_s, me2_s, e_isi, isi1_s, w_rngE, rng1_s, w_exE, wlk1_s, prL_some, walk_lst, walk_tup, walk_str, e_lc, lc1_s, lc2_s, e_lcP, lcP1_s, e_lc2, lcD1_s, e_lrng, lrng1_s, lrng2_s, e_sset, sset1_s, sset2_s, wipeE_nil, wipeE_cons, t_ev, tst1_s, ss_nil, ss_cons, seq_nx, seq_rt, seq_bk, seq_ct, seq_ite,
 s_asgV, s_asgO, asgV_s, asgO_s, settle_t, settle_c, frz_nil, frz_val, frz_none, frz_pool, frz_own, n_non, n_bl, n_int, n_str, n_lst, n_tup, n_nil, n_cons, s_unp, unp1_s, s_parE, par1_s, setAll_nil, setAll_cons, s_aug, aug1_s, aug2_i, aug2_t, aug3_s, s_app, app1_s, app2_s, s_ret, ret1_s, ret1_ite, s_if, if1_s, s_for, s_forT, for1_s, turnF_s, turnT_s, s_brk, s_cnt, s_pass, frzW_rng, frzW_ex,
 d_ev, d_nx, d_rt, d_ite, and_pure, or_pure, tru_bl, tru_int, tru_non, tru_str, tru_lst, tru_tup, pr_some, pr_gd, prB_some, prT_some, iniE, lawE, List.getElem?_cons_zero, List.getElem?_cons_succ, List.getElem?_nil, List.set_cons_zero, List.set_cons_succ, List.set_nil, List.map_cons, List.map_nil, List.nil_append, List.cons_append, List.append_nil, List.length_cons, List.length_nil, Nat.zero_le, Nat.reduceLeDiff, Nat.reduceAdd, List.replicate, ite_true, ite_false, if_true, if_false, Bool.false_eq_true, reduceIte, reduceCtorEq, ite_self, Bool.true_and, Bool.and_true, Bool.not_true, Bool.not_false, Bool.not_not, Option.map_some, Option.map_none, Pu.sizeLine_eq, cmp_ge, cmp_gt, cmp_le, cmp_lt, eq_i, eq_s, eq_b, ne_i, ne_s, ne_b, in_c, nin_c, op_add_i, op_add_s, op_add_t, op_add_l, op_sub_i, op_mul_r, op_mul_l, op_div_i, op_mod_i, bi_int, bi_intb, len_s, len_l, len_t, bi_list_t, bi_list_l, bi_tuple_t, bi_tuple_l, bi_min2, bi_max2, rev_s, rev_l, rev_t, sub_l, sub_t, sub_s, sl_l, sl_t, sl_s, at0, at1, at2, at3, lct_no, lct_yes, lctP_nm, l2T_nm, l2t1_s, ix_nm, ix_tp, lct1_s, lct2_s, lct3_s, gd_pos, beqL, h, decide_false, addN1, rngL_2i (a := 1) (x := 1) (y := w.length + 1) rfl rfl (by decide) (by omega), Nat.add_sub_cancel, e2, hl2]
/-- the greatest common measure -/
def lb_common_0 : Sts := (.cons (.par [0, 1] (.cons (.var 1) (.cons (.bin .Mod (.var 0) (.var 1)) .nil))) .nil)
def b_common : Sts := (.cons (.whl (.cmp .Gt (.var 1) (.con (.int 0))) lb_common_0) (.cons (.ret (.var 0)) .nil))
def F_common : Fnc := fun ds pl => evD fuel b_common 2 false ds pl
theorem common_ev {a b : Nat} (hb : b < 1000000) : F_common [.int (a : Nat), .int (b : Nat)] pl = some (.int (Nat.gcd a b : Nat), pl) := by
  unfold F_common b_common
  obtain ⟨st', h1, h2, h3⟩ := wh_inv (tst := evT (.cmp .Gt (.var 1) (.con (.int 0)))) (body := evSs fuel lb_common_0) (pl := pl) (σ := Nat × Nat) (E := fun st => [.val (.int (st.1 : Nat)), .val (.int (st.2 : Nat))]) (I := fun st => Nat.gcd st.1 st.2 = Nat.gcd a b) (c := fun st => decide (0 < st.2)) (step := fun st => (st.2, st.1 % st.2)) (μ := fun st => st.2)
    (fun st _ => by simp only [gd_T, e_con, e_glob, e_var, rd_val, rd_own, e_bin, bin1_s, bin2_s, e_neg, neg1_s, e_cmp, cmp1_s, cmp2_s, e_chn, chn1_s, chn2_s, chn3_s, e_isK, isK1_s, e_bools, b_last, b_more, bolC_s, bolD_s, e_not, not1_s, e_ite, ite1_s, ite2_s, es_nil, es_cons, es1_s, es2_s, e_tup, e_lst, tup1_s, lst1_s,
 e_sub, sub1_s, sub2_s, o_none, o_some, o1_s, e_sl, sl1_s, sl2_s, sl3_s, e_rev, rev1_s, e_call, call1_s, e_callP, callP1_s, e_bi, bi1_s, e_me, me1_s, me2_s, e_isi, isi1_s, w_rngE, rng1_s, w_exE, wlk1_s, prL_some, walk_lst, walk_tup, walk_str, e_lc, lc1_s, lc2_s, e_lcP, lcP1_s, e_lc2, lcD1_s, e_lrng, lrng1_s, lrng2_s, e_sset, sset1_s, sset2_s, wipeE_nil, wipeE_cons, t_ev, tst1_s, ss_nil, ss_cons, seq_nx, seq_rt, seq_bk, seq_ct, seq_ite,
 s_asgV, s_asgO, asgV_s, asgO_s, settle_t, settle_c, frz_nil, frz_val, frz_none, frz_pool, frz_own, n_non, n_bl, n_int, n_str, n_lst, n_tup, n_nil, n_cons, s_unp, unp1_s, s_parE, par1_s, setAll_nil, setAll_cons, s_aug, aug1_s, aug2_i, aug2_t, aug3_s, s_app, app1_s, app2_s, s_ret, ret1_s, ret1_ite, s_if, if1_s, s_for, s_forT, for1_s, turnF_s, turnT_s, s_brk, s_cnt, s_pass, frzW_rng, frzW_ex,
 d_ev, d_nx, d_rt, d_ite, and_pure, or_pure, tru_bl, tru_int, tru_non, tru_str, tru_lst, tru_tup, pr_some, pr_gd, prB_some, prT_some, iniE, lawE, List.getElem?_cons_zero, List.getElem?_cons_succ, List.getElem?_nil, List.set_cons_zero, List.set_cons_succ, List.set_nil, List.map_cons, List.map_nil, List.nil_append, List.cons_append, List.append_nil, List.length_cons, List.length_nil, Nat.zero_le, Nat.reduceLeDiff, Nat.reduceAdd, List.replicate, ite_true, ite_false, if_true, if_false, Bool.false_eq_true, reduceIte, reduceCtorEq, ite_self, Bool.true_and, Bool.and_true, Bool.not_true, Bool.not_false, Bool.not_not, Option.map_some, Option.map_none, Pu.sizeLine_eq, cmp_ge, cmp_gt, cmp_le, cmp_lt, eq_i, eq_s, eq_b, ne_i, ne_s, ne_b, in_c, nin_c, op_add_i, op_add_s, op_add_t, op_add_l, op_sub_i, op_mul_r, op_mul_l, op_div_i, op_mod_i, bi_int, bi_intb, len_s, len_l, len_t, bi_list_t, bi_list_l, bi_tuple_t, bi_tuple_l, bi_min2, bi_max2, rev_s, rev_l, rev_t, sub_l, sub_t, sub_s, sl_l, sl_t, sl_s, at0, at1, at2, at3, lct_no, lct_yes, lctP_nm, l2T_nm, l2t1_s, ix_nm, ix_tp, lct1_s, lct2_s, lct3_s, gd_pos, ltN0]) (fun st hi hc => by
      have hc : 0 < st.2 := of_decide_eq_true hc
      refine ⟨?_, ?_, Nat.mod_lt _ hc⟩
      · unfold lb_common_0
        simp (disch := omega) only [gd_T, e_con, e_glob, e_var, rd_val, rd_own, e_bin, bin1_s, bin2_s, e_neg, neg1_s, e_cmp, cmp1_s, cmp2_s, e_chn, chn1_s, chn2_s, chn3_s, e_isK, isK1_s, e_bools, b_last, b_more, bolC_s, bolD_s, e_not, not1_s, e_ite, ite1_s, ite2_s, es_nil, es_cons, es1_s, es2_s, e_tup, e_lst, tup1_s, lst1_s,
 e_sub, sub1_s, sub2_s, o_none, o_some, o1_s, e_sl, sl1_s, sl2_s, sl3_s, e_rev, rev1_s, e_call, call1_s, e_callP, callP1_s, e_bi, bi1_s, e_me, me1_s, me2_s, e_isi, isi1_s, w_rngE, rng1_s, w_exE, wlk1_s, prL_some, walk_lst, walk_tup, walk_str, e_lc, lc1_s, lc2_s, e_lcP, lcP1_s, e_lc2, lcD1_s, e_lrng, lrng1_s, lrng2_s, e_sset, sset1_s, sset2_s, wipeE_nil, wipeE_cons, t_ev, tst1_s, ss_nil, ss_cons, seq_nx, seq_rt, seq_bk, seq_ct, seq_ite,
 s_asgV, s_asgO, asgV_s, asgO_s, settle_t, settle_c, frz_nil, frz_val, frz_none, frz_pool, frz_own, n_non, n_bl, n_int, n_str, n_lst, n_tup, n_nil, n_cons, s_unp, unp1_s, s_parE, par1_s, setAll_nil, setAll_cons, s_aug, aug1_s, aug2_i, aug2_t, aug3_s, s_app, app1_s, app2_s, s_ret, ret1_s, ret1_ite, s_if, if1_s, s_for, s_forT, for1_s, turnF_s, turnT_s, s_brk, s_cnt, s_pass, frzW_rng, frzW_ex,
 d_ev, d_nx, d_rt, d_ite, and_pure, or_pure, tru_bl, tru_int, tru_non, tru_str, tru_lst, tru_tup, pr_some, pr_gd, prB_some, prT_some, iniE, lawE, List.getElem?_cons_zero, List.getElem?_cons_succ, List.getElem?_nil, List.set_cons_zero, List.set_cons_succ, List.set_nil, List.map_cons, List.map_nil, List.nil_append, List.cons_append, List.append_nil, List.length_cons, List.length_nil, Nat.zero_le, Nat.reduceLeDiff, Nat.reduceAdd, List.replicate, ite_true, ite_false, if_true, if_false, Bool.false_eq_true, reduceIte, reduceCtorEq, ite_self, Bool.true_and, Bool.and_true, Bool.not_true, Bool.not_false, Bool.not_not, Option.map_some, Option.map_none, Pu.sizeLine_eq, cmp_ge, cmp_gt, cmp_le, cmp_lt, eq_i, eq_s, eq_b, ne_i, ne_s, ne_b, in_c, nin_c, op_add_i, op_add_s, op_add_t, op_add_l, op_sub_i, op_mul_r, op_mul_l, op_div_i, op_mod_i, bi_int, bi_intb, len_s, len_l, len_t, bi_list_t, bi_list_l, bi_tuple_t, bi_tuple_l, bi_min2, bi_max2, rev_s, rev_l, rev_t, sub_l, sub_t, sub_s, sl_l, sl_t, sl_s, at0, at1, at2, at3, lct_no, lct_yes, lctP_nm, l2T_nm, l2t1_s, ix_nm, ix_tp, lct1_s, lct2_s, lct3_s, gd_pos, modN]
      · show Nat.gcd st.2 (st.1 % st.2) = _
        rw [← hi, Nat.gcd_comm st.2, ← Nat.gcd_rec, Nat.gcd_comm]) (n := fuel) (st := (a, b)) rfl (by unfold fuel; exact hb)
  have h2 : ¬ 0 < st'.2 := of_decide_eq_false h2
  have h0 : st'.2 = 0 := by omega
  have h1 : Nat.gcd st'.1 st'.2 = Nat.gcd a b := h1
  rw [h0, Nat.gcd_zero_right] at h1
  have h3 : whGo _ _ fuel [.val (.int (a : Nat)), .val (.int (b : Nat))] pl = some (.nx, [.val (.int (st'.1 : Nat)), .val (.int (st'.2 : Nat))], pl) := h3
  simp (disch := omega) only [gd_T, e_con, e_glob, e_var, rd_val, rd_own, e_bin, bin1_s, bin2_s, e_neg, neg1_s, e_cmp, cmp1_s, cmp2_s, e_chn, chn1_s, chn2_s, chn3_s, e_isK, isK1_s, e_bools, b_last, b_more, bolC_s, bolD_s, e_not, not1_s, e_ite, ite1_s, ite2_s, es_nil, es_cons, es1_s, es2_s, e_tup, e_lst, tup1_s, lst1_s,
 e_sub, sub1_s, sub2_s, o_none, o_some, o1_s, e_sl, sl1_s, sl2_s, sl3_s, e_rev, rev1_s, e_call, call1_s, e_callP, callP1_s, e_bi, bi1_s, e_me, me1_s, me2_s, e_isi, isi1_s, w_rngE, rng1_s, w_exE, wlk1_s, prL_some, walk_lst, walk_tup, walk_str, e_lc, lc1_s, lc2_s, e_lcP, lcP1_s, e_lc2, lcD1_s, e_lrng, lrng1_s, lrng2_s, e_sset, sset1_s, sset2_s, wipeE_nil, wipeE_cons, t_ev, tst1_s, ss_nil, ss_cons, seq_nx, seq_rt, seq_bk, seq_ct, seq_ite,
 s_asgV, s_asgO, asgV_s, asgO_s, settle_t, settle_c, frz_nil, frz_val, frz_none, frz_pool, frz_own, n_non, n_bl, n_int, n_str, n_lst, n_tup, n_nil, n_cons, s_unp, unp1_s, s_parE, par1_s, setAll_nil, setAll_cons, s_aug, aug1_s, aug2_i, aug2_t, aug3_s, s_app, app1_s, app2_s, s_ret, ret1_s, ret1_ite, s_if, if1_s, s_for, s_forT, for1_s, turnF_s, turnT_s, s_brk, s_cnt, s_pass, frzW_rng, frzW_ex,
 d_ev, d_nx, d_rt, d_ite, and_pure, or_pure, tru_bl, tru_int, tru_non, tru_str, tru_lst, tru_tup, pr_some, pr_gd, prB_some, prT_some, iniE, lawE, List.getElem?_cons_zero, List.getElem?_cons_succ, List.getElem?_nil, List.set_cons_zero, List.set_cons_succ, List.set_nil, List.map_cons, List.map_nil, List.nil_append, List.cons_append, List.append_nil, List.length_cons, List.length_nil, Nat.zero_le, Nat.reduceLeDiff, Nat.reduceAdd, List.replicate, ite_true, ite_false, if_true, if_false, Bool.false_eq_true, reduceIte, reduceCtorEq, ite_self, Bool.true_and, Bool.and_true, Bool.not_true, Bool.not_false, Bool.not_not, Option.map_some, Option.map_none, Pu.sizeLine_eq, cmp_ge, cmp_gt, cmp_le, cmp_lt, eq_i, eq_s, eq_b, ne_i, ne_s, ne_b, in_c, nin_c, op_add_i, op_add_s, op_add_t, op_add_l, op_sub_i, op_mul_r, op_mul_l, op_div_i, op_mod_i, bi_int, bi_intb, len_s, len_l, len_t, bi_list_t, bi_list_l, bi_tuple_t, bi_tuple_l, bi_min2, bi_max2, rev_s, rev_l, rev_t, sub_l, sub_t, sub_s, sl_l, sl_t, sl_s, at0, at1, at2, at3, lct_no, lct_yes, lctP_nm, l2T_nm, l2t1_s, ix_nm, ix_tp, lct1_s, lct2_s, lct3_s, gd_pos, s_whl, Nat.sub_self, List.replicate_zero, h3, h1]
end
end Pu
set_option Elab.async false
set_option linter.all false
set_option maxRecDepth 100000
set_option maxHeartbeats 1000000
namespace Pu
open PySem PySem.Spec PyProof.Rows L2 Wd

/-! ### words between words -/
theorem between_words : ∀ (n : Nat) {one two mid : List Nat}, mid.length = n → one ≠ [] → one ++ mid = mid ++ two →
    one.drop (mid.length % one.length) ++ one.take (mid.length % one.length) = two ∧ (List.replicate (mid.length / one.length) one).flatten ++ one.take (mid.length % one.length) = mid := by
  intro n
  induction n using Nat.strongRecOn with
  | ind n ih =>
    intro one two mid hn h0 h
    have hp : 0 < one.length := List.length_pos_iff.mpr h0
    by_cases hlt : mid.length < one.length
    · rw [Nat.mod_eq_of_lt hlt, Nat.div_eq_of_lt hlt]
      have e1 : one.take mid.length = mid := by
        have := congrArg (List.take mid.length) h
        rw [List.take_append_of_le_length (by omega), List.take_append_of_le_length (Nat.le_refl _), List.take_length] at this
        exact this
      have e2 : one.drop mid.length ++ mid = two := by
        have := congrArg (List.drop mid.length) h
        rw [List.drop_append_of_le_length (by omega), List.drop_append_of_le_length (Nat.le_refl _), List.drop_length, List.nil_append] at this
        exact this
      rw [e1]
      exact ⟨e2, by simp⟩
    · have e1 : mid.take one.length = one := by
        have := congrArg (List.take one.length) h
        rw [List.take_append_of_le_length (Nat.le_refl _), List.take_append_of_le_length (by omega), List.take_length] at this
        exact this.symm
      have e2 : mid = one ++ mid.drop one.length := by
        conv => lhs; rw [← List.take_append_drop one.length mid, e1]
      generalize hm : mid.drop one.length = m2 at e2
      have hl : mid.length = one.length + m2.length := by rw [e2, List.length_append]
      subst e2
      rw [List.append_assoc] at h
      have h2 := List.append_cancel_left h
      obtain ⟨g1, g2⟩ := ih m2.length (by rw [← hn, hl]; omega) (one := one) (two := two) (mid := m2) rfl h0 h2
      have hmod : (one ++ m2).length % one.length = m2.length % one.length := by rw [List.length_append, Nat.add_mod_left]
      have hdiv : (one ++ m2).length / one.length = m2.length / one.length + 1 := by rw [List.length_append, Nat.add_div_left _ hp]
      rw [hmod, hdiv, List.replicate_succ, List.flatten_cons, List.append_assoc]
      exact ⟨g1, by rw [g2]⟩
section
variable {w one two mid : List Nat} {v : D} {pl : Pool}
/-! ### words that go together -/
def dfN (l r : List Nat) : List Nat := (List.range' 0 l.length).filter fun k => !decide (l[k]? = r[k]?)
theorem dfN_ne {l r : List Nat} (hl : l.length = r.length) (h : l ≠ r) : ∃ k t, dfN l r = k :: t ∧ k < l.length ∧ l[k]? ≠ r[k]? := by
  cases e : dfN l r with
  | nil =>
    refine absurd (List.ext_getElem? fun i => ?_) h
    unfold dfN at e
    rw [List.filter_eq_nil_iff] at e
    by_cases hi : i < l.length
    · have := e i (by rw [List.mem_range'_1]; omega)
      simpa using this
    · rw [List.getElem?_eq_none (by omega), List.getElem?_eq_none (by omega)]
  | cons k t =>
    have hk : k ∈ dfN l r := by rw [e]; exact List.mem_cons_self
    unfold dfN at hk
    rw [List.mem_filter, List.mem_range'_1] at hk
    refine ⟨k, t, rfl, by omega, fun z => ?_⟩
    have := hk.2
    rw [decide_eq_true z] at this
    cases this
theorem let_ne {l r : List Nat} {k : Nat} (h1 : k < l.length) (h2 : k < r.length) : decide ([l[k]] = [r[k]]) = decide (l[k]? = r[k]?) := by
  rw [List.getElem?_eq_getElem h1, List.getElem?_eq_getElem h2, Bool.eq_iff_iff]
  simp
theorem comm_powers (h : one ++ two = two ++ one) (hn : one ++ two ≠ []) : pw (one.length / rd (one ++ two)) (rt (one ++ two)) = one ∧ pw (two.length / rd (one ++ two)) (rt (one ++ two)) = two := by
  have S := rd_spec hn
  have hd := rd_dvd hn (comm_rot.mp h)
  have hp := S.pos
  have hw := rt_pw hn
  have hdt : rd (one ++ two) ∣ two.length := by
    have := S.dvd
    rw [List.length_append] at this
    exact (Nat.dvd_add_right hd).mp this
  obtain ⟨a, ha⟩ := hd
  obtain ⟨b, hb⟩ := hdt
  have e1 : one.length / rd (one ++ two) = a := by rw [ha, Nat.mul_div_cancel_left _ hp]
  have e2 : two.length / rd (one ++ two) = b := by rw [hb, Nat.mul_div_cancel_left _ hp]
  have e3 : (one ++ two).length / rd (one ++ two) = a + b := by
    rw [List.length_append, ha, hb, ← Nat.mul_add, Nat.mul_div_cancel_left _ hp]
  rw [e3, pw_add] at hw
  have := List.append_inj hw (by rw [pw_len, rt_len hn, ha, Nat.mul_comm])
  rw [e1, e2]
  exact this

def sPowers : List Nat := [112, 111, 119, 101, 114, 115]
def sPlace : List Nat := [112, 108, 97, 99, 101]
def sParts : List Nat := [112, 97, 114, 116, 115]
def sLen : List Nat := [108, 101, 110, 103, 116, 104]
def b_together_paper : Sts := (.cons (.ite (.cmp .Eq (.bin .Add (.var 0) (.var 1)) (.bin .Add (.var 1) (.var 0))) (.cons (.asg false 2 (.bin .Add (.var 0) (.var 1))) (.cons (.asg false 3 (.ite (.cmp .Gt (.bi .len (.cons (.var 2) .nil)) (.con (.int 0))) (.call "root" 1 F_root (.cons (.var 2) .nil)) (.con (.str [])))) (.cons (.asg false 4 (.bi .len (.cons (.var 3) .nil))) (.cons (.ret (.tup (.cons (.con (.str [112, 111, 119, 101, 114, 115])) (.cons (.var 3) (.cons (.ite (.cmp .Gt (.var 4) (.con (.int 0))) (.bin .FloorDiv (.bi .len (.cons (.var 0) .nil)) (.var 4)) (.con (.int 0))) (.cons (.ite (.cmp .Gt (.var 4) (.con (.int 0))) (.bin .FloorDiv (.bi .len (.cons (.var 1) .nil)) (.var 4)) (.con (.int 0))) .nil)))))) .nil)))) .nil) (.cons (.par [5, 6] (.cons (.bin .Add (.var 0) (.var 1)) (.cons (.bin .Add (.var 1) (.var 0)) .nil))) (.cons (.ret (.tup (.cons (.con (.str [112, 108, 97, 99, 101])) (.cons (.sub (.lc 7 (.rng (.cons (.bi .len (.cons (.var 5) .nil)) .nil)) (.yes (.cmp .NotEq (.sub (.var 5) (.var 7)) (.sub (.var 6) (.var 7)))) (.var 7)) (.con (.int 0))) .nil)))) .nil)))
def F_together_paper : Fnc := fun ds pl => evD fuel b_together_paper 8 false ds pl
theorem together_form (h1 : wdW one) (h2 : wdW two) (h12 : one.length + two.length ≤ 60) : ∃ r, F_together_paper [.str one, .str two] pl = some (.tup (.str (if one ++ two = two ++ one then sPowers else sPlace) :: r), pl) := by
  have l1 := h1.1
  have l2 := h2.1
  have hwd : wdW (one ++ two) := wdW_app h1 h2 h12
  have hle : (one ++ two).length ≤ 1000 := by rw [List.length_append]; omega
  have hle2 : (two ++ one).length ≤ 1000 := by rw [List.length_append]; omega
  have hll : (one ++ two).length = (two ++ one).length := by rw [List.length_append, List.length_append, Nat.add_comm]
  unfold F_together_paper b_together_paper
  by_cases he : one ++ two = two ++ one
  · by_cases hn : one ++ two = []
    · have hn1 : one = [] := (List.append_eq_nil_iff.mp hn).1
      have hn2 : two = [] := (List.append_eq_nil_iff.mp hn).2
      subst hn1 hn2
      refine ⟨[.str [], .int (0 : Nat), .int (0 : Nat)], ?_⟩
      simp +decide (disch := omega) only [gd_T, e_con, e_glob, e_var, rd_val, rd_own, e_bin, bin1_s, bin2_s, e_neg, neg1_s, e_cmp, cmp1_s, cmp2_s, e_chn, chn1_s, chn2_s, chn3_s, e_isK, isK1_s, e_bools, b_last, b_more, bolC_s, bolD_s, e_not, not1_s, e_ite, ite1_s, ite2_s, es_nil, es_cons, es1_s, es2_s, e_tup, e_lst, tup1_s, lst1_s,
 e_sub, sub1_s, sub2_s, o_none, o_some, o1_s, e_sl, sl1_s, sl2_s, sl3_s, e_rev, rev1_s, e_call, call1_s, e_callP, callP1_s, e_bi, bi1_s, e_me, me1_s, me2_s, e_isi, isi1_s, w_rngE, rng1_s, w_exE, wlk1_s, prL_some, walk_lst, walk_tup, walk_str, e_lc, lc1_s, lc2_s, e_lcP, lcP1_s, e_lc2, lcD1_s, e_lrng, lrng1_s, lrng2_s, e_sset, sset1_s, sset2_s, wipeE_nil, wipeE_cons, t_ev, tst1_s, ss_nil, ss_cons, seq_nx, seq_rt, seq_bk, seq_ct, seq_ite,
 s_asgV, s_asgO, asgV_s, asgO_s, settle_t, settle_c, frz_nil, frz_val, frz_none, frz_pool, frz_own, n_non, n_bl, n_int, n_str, n_lst, n_tup, n_nil, n_cons, s_unp, unp1_s, s_parE, par1_s, setAll_nil, setAll_cons, s_aug, aug1_s, aug2_i, aug2_t, aug3_s, s_app, app1_s, app2_s, s_ret, ret1_s, ret1_ite, s_if, if1_s, s_for, s_forT, for1_s, turnF_s, turnT_s, s_brk, s_cnt, s_pass, frzW_rng, frzW_ex,
 d_ev, d_nx, d_rt, d_ite, and_pure, or_pure, tru_bl, tru_int, tru_non, tru_str, tru_lst, tru_tup, pr_some, pr_gd, prB_some, prT_some, iniE, lawE, List.getElem?_cons_zero, List.getElem?_cons_succ, List.getElem?_nil, List.set_cons_zero, List.set_cons_succ, List.set_nil, List.map_cons, List.map_nil, List.nil_append, List.cons_append, List.append_nil, List.length_cons, List.length_nil, Nat.zero_le, Nat.reduceLeDiff, Nat.reduceAdd, List.replicate, ite_true, ite_false, if_true, if_false, Bool.false_eq_true, reduceIte, reduceCtorEq, ite_self, Bool.true_and, Bool.and_true, Bool.not_true, Bool.not_false, Bool.not_not, Option.map_some, Option.map_none, Pu.sizeLine_eq, cmp_ge, cmp_gt, cmp_le, cmp_lt, eq_i, eq_s, eq_b, ne_i, ne_s, ne_b, in_c, nin_c, op_add_i, op_add_s, op_add_t, op_add_l, op_sub_i, op_mul_r, op_mul_l, op_div_i, op_mod_i, bi_int, bi_intb, len_s, len_l, len_t, bi_list_t, bi_list_l, bi_tuple_t, bi_tuple_l, bi_min2, bi_max2, rev_s, rev_l, rev_t, sub_l, sub_t, sub_s, sl_l, sl_t, sl_s, at0, at1, at2, at3, lct_no, lct_yes, lctP_nm, l2T_nm, l2t1_s, ix_nm, ix_tp, lct1_s, lct2_s, lct3_s, gd_pos, decide_true, decide_false]
      rfl
    · have S := rd_spec hn
      have hp := S.pos
      have hl : 0 < (one ++ two).length := List.length_pos_iff.mpr hn
      have hrl : rd (one ++ two) ≤ 120 := by have := S.le; rw [List.length_append] at this; omega
      have hs : one.length + two.length ≤ 16777216 := by omega
      have hs2 : two.length + one.length ≤ 16777216 := by omega
      refine ⟨[.str (rt (one ++ two)), .int ((one.length / rd (one ++ two) : Nat) : Int), .int ((two.length / rd (one ++ two) : Nat) : Int)], ?_⟩
      rw [if_pos he]
      have hb : (one ++ two == two ++ one) = true := by rw [beqL, decide_eq_true he]
      simp (disch := omega) only [gd_T, e_con, e_glob, e_var, rd_val, rd_own, e_bin, bin1_s, bin2_s, e_neg, neg1_s, e_cmp, cmp1_s, cmp2_s, e_chn, chn1_s, chn2_s, chn3_s, e_isK, isK1_s, e_bools, b_last, b_more, bolC_s, bolD_s, e_not, not1_s, e_ite, ite1_s, ite2_s, es_nil, es_cons, es1_s, es2_s, e_tup, e_lst, tup1_s, lst1_s,
 e_sub, sub1_s, sub2_s, o_none, o_some, o1_s, e_sl, sl1_s, sl2_s, sl3_s, e_rev, rev1_s, e_call, call1_s, e_callP, callP1_s, e_bi, bi1_s, e_me, me1_s, me2_s, e_isi, isi1_s, w_rngE, rng1_s, w_exE, wlk1_s, prL_some, walk_lst, walk_tup, walk_str, e_lc, lc1_s, lc2_s, e_lcP, lcP1_s, e_lc2, lcD1_s, e_lrng, lrng1_s, lrng2_s, e_sset, sset1_s, sset2_s, wipeE_nil, wipeE_cons, t_ev, tst1_s, ss_nil, ss_cons, seq_nx, seq_rt, seq_bk, seq_ct, seq_ite,
 s_asgV, s_asgO, asgV_s, asgO_s, settle_t, settle_c, frz_nil, frz_val, frz_none, frz_pool, frz_own, n_non, n_bl, n_int, n_str, n_lst, n_tup, n_nil, n_cons, s_unp, unp1_s, s_parE, par1_s, setAll_nil, setAll_cons, s_aug, aug1_s, aug2_i, aug2_t, aug3_s, s_app, app1_s, app2_s, s_ret, ret1_s, ret1_ite, s_if, if1_s, s_for, s_forT, for1_s, turnF_s, turnT_s, s_brk, s_cnt, s_pass, frzW_rng, frzW_ex,
 d_ev, d_nx, d_rt, d_ite, and_pure, or_pure, tru_bl, tru_int, tru_non, tru_str, tru_lst, tru_tup, pr_some, pr_gd, prB_some, prT_some, iniE, lawE, List.getElem?_cons_zero, List.getElem?_cons_succ, List.getElem?_nil, List.set_cons_zero, List.set_cons_succ, List.set_nil, List.map_cons, List.map_nil, List.nil_append, List.cons_append, List.append_nil, List.length_cons, List.length_nil, Nat.zero_le, Nat.reduceLeDiff, Nat.reduceAdd, List.replicate, ite_true, ite_false, if_true, if_false, Bool.false_eq_true, reduceIte, reduceCtorEq, ite_self, Bool.true_and, Bool.and_true, Bool.not_true, Bool.not_false, Bool.not_not, Option.map_some, Option.map_none, Pu.sizeLine_eq, cmp_ge, cmp_gt, cmp_le, cmp_lt, eq_i, eq_s, eq_b, ne_i, ne_s, ne_b, in_c, nin_c, op_add_i, op_add_s, op_add_t, op_add_l, op_sub_i, op_mul_r, op_mul_l, op_div_i, op_mod_i, bi_int, bi_intb, len_s, len_l, len_t, bi_list_t, bi_list_l, bi_tuple_t, bi_tuple_l, bi_min2, bi_max2, rev_s, rev_l, rev_t, sub_l, sub_t, sub_s, sl_l, sl_t, sl_s, at0, at1, at2, at3, lct_no, lct_yes, lctP_nm, l2T_nm, l2t1_s, ix_nm, ix_tp, lct1_s, lct2_s, lct3_s, gd_pos, hs, hs2, hb, ltN0, hl, decide_true, root_ev hn hle, rt_len hn, hp, divN]
      rfl
  · obtain ⟨k, t, e1, hk, hne⟩ := dfN_ne hll he
    have hs : one.length + two.length ≤ 16777216 := by omega
    have hs2 : two.length + one.length ≤ 16777216 := by omega
    have e2 := lc_rngF (turn := lcTurn 7 (.yes (.cmp .NotEq (.sub (.var 5) (.var 7)) (.sub (.var 6) (.var 7)))) (.var 7) [.val (.str one), .val (.str two), .none, .none, .none, .val (.str (one ++ two)), .val (.str (two ++ one)), .none]) (a := 0) (n := (one ++ two).length) (pl := pl) (p := fun k => !decide ((one ++ two)[k]? = (two ++ one)[k]?)) (g := fun k => .int (k : Nat)) (fun k _ hk => by
      have g1 : k < (one ++ two).length := by omega
      have g2 : k < (two ++ one).length := by omega
      simp (disch := omega) only [gd_T, e_con, e_glob, e_var, rd_val, rd_own, e_bin, bin1_s, bin2_s, e_neg, neg1_s, e_cmp, cmp1_s, cmp2_s, e_chn, chn1_s, chn2_s, chn3_s, e_isK, isK1_s, e_bools, b_last, b_more, bolC_s, bolD_s, e_not, not1_s, e_ite, ite1_s, ite2_s, es_nil, es_cons, es1_s, es2_s, e_tup, e_lst, tup1_s, lst1_s,
 e_sub, sub1_s, sub2_s, o_none, o_some, o1_s, e_sl, sl1_s, sl2_s, sl3_s, e_rev, rev1_s, e_call, call1_s, e_callP, callP1_s, e_bi, bi1_s, e_me, me1_s, me2_s, e_isi, isi1_s, w_rngE, rng1_s, w_exE, wlk1_s, prL_some, walk_lst, walk_tup, walk_str, e_lc, lc1_s, lc2_s, e_lcP, lcP1_s, e_lc2, lcD1_s, e_lrng, lrng1_s, lrng2_s, e_sset, sset1_s, sset2_s, wipeE_nil, wipeE_cons, t_ev, tst1_s, ss_nil, ss_cons, seq_nx, seq_rt, seq_bk, seq_ct, seq_ite,
 s_asgV, s_asgO, asgV_s, asgO_s, settle_t, settle_c, frz_nil, frz_val, frz_none, frz_pool, frz_own, n_non, n_bl, n_int, n_str, n_lst, n_tup, n_nil, n_cons, s_unp, unp1_s, s_parE, par1_s, setAll_nil, setAll_cons, s_aug, aug1_s, aug2_i, aug2_t, aug3_s, s_app, app1_s, app2_s, s_ret, ret1_s, ret1_ite, s_if, if1_s, s_for, s_forT, for1_s, turnF_s, turnT_s, s_brk, s_cnt, s_pass, frzW_rng, frzW_ex,
 d_ev, d_nx, d_rt, d_ite, and_pure, or_pure, tru_bl, tru_int, tru_non, tru_str, tru_lst, tru_tup, pr_some, pr_gd, prB_some, prT_some, iniE, lawE, List.getElem?_cons_zero, List.getElem?_cons_succ, List.getElem?_nil, List.set_cons_zero, List.set_cons_succ, List.set_nil, List.map_cons, List.map_nil, List.nil_append, List.cons_append, List.append_nil, List.length_cons, List.length_nil, Nat.zero_le, Nat.reduceLeDiff, Nat.reduceAdd, List.replicate, ite_true, ite_false, if_true, if_false, Bool.false_eq_true, reduceIte, reduceCtorEq, ite_self, Bool.true_and, Bool.and_true, Bool.not_true, Bool.not_false, Bool.not_not, Option.map_some, Option.map_none, Pu.sizeLine_eq, cmp_ge, cmp_gt, cmp_le, cmp_lt, eq_i, eq_s, eq_b, ne_i, ne_s, ne_b, in_c, nin_c, op_add_i, op_add_s, op_add_t, op_add_l, op_sub_i, op_mul_r, op_mul_l, op_div_i, op_mod_i, bi_int, bi_intb, len_s, len_l, len_t, bi_list_t, bi_list_l, bi_tuple_t, bi_tuple_l, bi_min2, bi_max2, rev_s, rev_l, rev_t, sub_l, sub_t, sub_s, sl_l, sl_t, sl_s, at0, at1, at2, at3, lct_no, lct_yes, lctP_nm, l2T_nm, l2t1_s, ix_nm, ix_tp, lct1_s, lct2_s, lct3_s, gd_pos, letS g1, letS g2, beqL, let_ne g1 g2])
    have e3 : List.map (fun k => D.int (k : Nat)) (dfN (one ++ two) (two ++ one)) = .int (k : Nat) :: t.map fun k => D.int (k : Nat) := by rw [e1]; rfl
    have hlt : t.length + 1 ≤ 16777216 := by
      have : (dfN (one ++ two) (two ++ one)).length ≤ (one ++ two).length := Nat.le_trans (List.length_filter_le _ _) (by rw [List.length_range']; omega)
      rw [e1] at this
      simp only [List.length_cons] at this
      omega
    have e2 : lcGo _ _ _ = some (List.map (fun k => D.int (k : Nat)) (dfN (one ++ two) (two ++ one)), pl) := e2
    rw [e3] at e2
    refine ⟨[.int (k : Nat)], ?_⟩
    rw [if_neg he]
    simp (disch := omega) only [gd_T, e_con, e_glob, e_var, rd_val, rd_own, e_bin, bin1_s, bin2_s, e_neg, neg1_s, e_cmp, cmp1_s, cmp2_s, e_chn, chn1_s, chn2_s, chn3_s, e_isK, isK1_s, e_bools, b_last, b_more, bolC_s, bolD_s, e_not, not1_s, e_ite, ite1_s, ite2_s, es_nil, es_cons, es1_s, es2_s, e_tup, e_lst, tup1_s, lst1_s,
 e_sub, sub1_s, sub2_s, o_none, o_some, o1_s, e_sl, sl1_s, sl2_s, sl3_s, e_rev, rev1_s, e_call, call1_s, e_callP, callP1_s, e_bi, bi1_s, e_me, me1_s, me2_s, e_isi, isi1_s, w_rngE, rng1_s, w_exE, wlk1_s, prL_some, walk_lst, walk_tup, walk_str, e_lc, lc1_s, lc2_s, e_lcP, lcP1_s, e_lc2, lcD1_s, e_lrng, lrng1_s, lrng2_s, e_sset, sset1_s, sset2_s, wipeE_nil, wipeE_cons, t_ev, tst1_s, ss_nil, ss_cons, seq_nx, seq_rt, seq_bk, seq_ct, seq_ite,
 s_asgV, s_asgO, asgV_s, asgO_s, settle_t, settle_c, frz_nil, frz_val, frz_none, frz_pool, frz_own, n_non, n_bl, n_int, n_str, n_lst, n_tup, n_nil, n_cons, s_unp, unp1_s, s_parE, par1_s, setAll_nil, setAll_cons, s_aug, aug1_s, aug2_i, aug2_t, aug3_s, s_app, app1_s, app2_s, s_ret, ret1_s, ret1_ite, s_if, if1_s, s_for, s_forT, for1_s, turnF_s, turnT_s, s_brk, s_cnt, s_pass, frzW_rng, frzW_ex,
 d_ev, d_nx, d_rt, d_ite, and_pure, or_pure, tru_bl, tru_int, tru_non, tru_str, tru_lst, tru_tup, pr_some, pr_gd, prB_some, prT_some, iniE, lawE, List.getElem?_cons_zero, List.getElem?_cons_succ, List.getElem?_nil, List.set_cons_zero, List.set_cons_succ, List.set_nil, List.map_cons, List.map_nil, List.nil_append, List.cons_append, List.append_nil, List.length_cons, List.length_nil, Nat.zero_le, Nat.reduceLeDiff, Nat.reduceAdd, List.replicate, ite_true, ite_false, if_true, if_false, Bool.false_eq_true, reduceIte, reduceCtorEq, ite_self, Bool.true_and, Bool.and_true, Bool.not_true, Bool.not_false, Bool.not_not, Option.map_some, Option.map_none, Pu.sizeLine_eq, cmp_ge, cmp_gt, cmp_le, cmp_lt, eq_i, eq_s, eq_b, ne_i, ne_s, ne_b, in_c, nin_c, op_add_i, op_add_s, op_add_t, op_add_l, op_sub_i, op_mul_r, op_mul_l, op_div_i, op_mod_i, bi_int, bi_intb, len_s, len_l, len_t, bi_list_t, bi_list_l, bi_tuple_t, bi_tuple_l, bi_min2, bi_max2, rev_s, rev_l, rev_t, sub_l, sub_t, sub_s, sl_l, sl_t, sl_s, at0, at1, at2, at3, lct_no, lct_yes, lctP_nm, l2T_nm, l2t1_s, ix_nm, ix_tp, lct1_s, lct2_s, lct3_s, gd_pos, hs, hs2, beqL, he, decide_false, rngL_nat, rngD_A, e2, List.length_map, hlt]
    rfl
def b_between_paper : Sts := (.cons (.par [3, 4] (.cons (.bin .Add (.var 0) (.var 2)) (.cons (.bin .Add (.var 2) (.var 1)) .nil))) (.cons (.ite (.cmp .NotEq (.var 3) (.var 4)) (.cons (.asg false 5 (.bi .min (.cons (.bi .len (.cons (.var 3) .nil)) (.cons (.bi .len (.cons (.var 4) .nil)) .nil)))) (.cons (.asg false 6 (.lc 7 (.rng (.cons (.var 5) .nil)) (.yes (.cmp .NotEq (.sub (.var 3) (.var 7)) (.sub (.var 4) (.var 7)))) (.var 7))) (.cons (.ret (.ite (.cmp .Gt (.bi .len (.cons (.var 6) .nil)) (.con (.int 0))) (.tup (.cons (.con (.str [112, 108, 97, 99, 101])) (.cons (.sub (.var 6) (.con (.int 0))) .nil))) (.tup (.cons (.con (.str [108, 101, 110, 103, 116, 104])) .nil)))) .nil))) .nil) (.cons (.ite (.cmp .Eq (.bi .len (.cons (.var 0) .nil)) (.con (.int 0))) (.cons (.ret (.tup (.cons (.con (.str [102, 114, 101, 101])) .nil))) .nil) .nil) (.cons (.asg false 7 (.bin .Mod (.bi .len (.cons (.var 2) .nil)) (.bi .len (.cons (.var 0) .nil)))) (.cons (.ret (.tup (.cons (.con (.str [112, 97, 114, 116, 115])) (.cons (.sl (.var 0) .no (.yes (.var 7))) (.cons (.sl (.var 0) (.yes (.var 7)) .no) (.cons (.bin .FloorDiv (.bi .len (.cons (.var 2) .nil)) (.bi .len (.cons (.var 0) .nil))) .nil)))))) .nil)))))
def F_between_paper : Fnc := fun ds pl => evD fuel b_between_paper 8 false ds pl
def b_check_between : Sts := (.cons (.ite (.call "is_named" 3 F_is_named (.cons (.var 3) (.cons (.con (.str [108, 101, 110, 103, 116, 104])) (.cons (.con (.int 1)) .nil)))) (.cons (.ret (.cmp .NotEq (.bi .len (.cons (.var 0) .nil)) (.bi .len (.cons (.var 1) .nil)))) .nil) .nil) (.cons (.ite (.call "is_named" 3 F_is_named (.cons (.var 3) (.cons (.con (.str [102, 114, 101, 101])) (.cons (.con (.int 1)) .nil)))) (.cons (.ret (.bools true (.cons (.cmp .Eq (.var 0) (.con (.str []))) (.cons (.cmp .Eq (.var 1) (.con (.str []))) .nil)))) .nil) .nil) (.cons (.ite (.call "is_named" 3 F_is_named (.cons (.var 3) (.cons (.con (.str [112, 108, 97, 99, 101])) (.cons (.con (.int 2)) .nil)))) (.cons (.asg false 4 (.bin .Add (.bi .min (.cons (.bi .len (.cons (.var 0) .nil)) (.cons (.bi .len (.cons (.var 1) .nil)) .nil))) (.bi .len (.cons (.var 2) .nil)))) (.cons (.ret (.bools true (.cons (.call "is_from" 3 F_is_from (.cons (.sub (.var 3) (.con (.int 1))) (.cons (.con (.int 0)) (.cons (.bin .Sub (.var 4) (.con (.int 1))) .nil)))) (.cons (.cmp .NotEq (.sub (.bin .Add (.var 0) (.var 2)) (.sub (.var 3) (.con (.int 1)))) (.sub (.bin .Add (.var 2) (.var 1)) (.sub (.var 3) (.con (.int 1))))) .nil)))) .nil)) .nil) (.cons (.ite (.bools false (.cons (.notE (.call "is_named" 3 F_is_named (.cons (.var 3) (.cons (.con (.str [112, 97, 114, 116, 115])) (.cons (.con (.int 4)) .nil))))) (.cons (.notE (.call "is_word" 1 F_is_word (.cons (.sub (.var 3) (.con (.int 1))) .nil))) (.cons (.notE (.call "is_word" 1 F_is_word (.cons (.sub (.var 3) (.con (.int 2))) .nil))) .nil)))) (.cons (.ret (.con (.bl false))) .nil) .nil) (.cons (.ite (.bools false (.cons (.notE (.call "is_from" 3 F_is_from (.cons (.sub (.var 3) (.con (.int 3))) (.cons (.con (.int 0)) (.cons (.bi .len (.cons (.var 2) .nil)) .nil))))) (.cons (.cmp .Eq (.bin .Add (.bi .len (.cons (.sub (.var 3) (.con (.int 1))) .nil)) (.bi .len (.cons (.sub (.var 3) (.con (.int 2))) .nil))) (.con (.int 0))) .nil))) (.cons (.ret (.con (.bl false))) .nil) .nil) (.cons (.unp [5, 6, 7] (.sl (.var 3) (.yes (.con (.int 1))) .no)) (.cons (.ret (.bools true (.cons (.cmp .Eq (.bin .Add (.var 5) (.var 6)) (.var 0)) (.cons (.cmp .Eq (.bin .Add (.var 6) (.var 5)) (.var 1)) (.cons (.cmp .Eq (.bin .Add (.bin .Mult (.bin .Add (.var 5) (.var 6)) (.var 7)) (.var 5)) (.var 2)) .nil))))) .nil)))))))
def F_check_between : Fnc := fun ds pl => evD fuel b_check_between 8 false ds pl
theorem between_parts (h0 : one ≠ []) (h1 : one.length ≤ 60) (h2 : two.length ≤ 60) (h3 : mid.length ≤ 60) (hq : one ++ mid = mid ++ two) : F_between_paper [.str one, .str two, .str mid] pl = some (.tup [.str sParts, .str (one.take (mid.length % one.length)), .str (one.drop (mid.length % one.length)), .int ((mid.length / one.length : Nat) : Int)], pl) := by
  have hp : 0 < one.length := List.length_pos_iff.mpr h0
  have hb : (one ++ mid == mid ++ two) = true := by rw [beqL, decide_eq_true hq]
  have hp0 : ¬ one.length = 0 := by omega
  unfold F_between_paper b_between_paper
  simp (disch := omega) only [gd_T, e_con, e_glob, e_var, rd_val, rd_own, e_bin, bin1_s, bin2_s, e_neg, neg1_s, e_cmp, cmp1_s, cmp2_s, e_chn, chn1_s, chn2_s, chn3_s, e_isK, isK1_s, e_bools, b_last, b_more, bolC_s, bolD_s, e_not, not1_s, e_ite, ite1_s, ite2_s, es_nil, es_cons, es1_s, es2_s, e_tup, e_lst, tup1_s, lst1_s,
 e_sub, sub1_s, sub2_s, o_none, o_some, o1_s, e_sl, sl1_s, sl2_s, sl3_s, e_rev, rev1_s, e_call, call1_s, e_callP, callP1_s, e_bi, bi1_s, e_me, me1_s, me2_s, e_isi, isi1_s, w_rngE, rng1_s, w_exE, wlk1_s, prL_some, walk_lst, walk_tup, walk_str, e_lc, lc1_s, lc2_s, e_lcP, lcP1_s, e_lc2, lcD1_s, e_lrng, lrng1_s, lrng2_s, e_sset, sset1_s, sset2_s, wipeE_nil, wipeE_cons, t_ev, tst1_s, ss_nil, ss_cons, seq_nx, seq_rt, seq_bk, seq_ct, seq_ite,
 s_asgV, s_asgO, asgV_s, asgO_s, settle_t, settle_c, frz_nil, frz_val, frz_none, frz_pool, frz_own, n_non, n_bl, n_int, n_str, n_lst, n_tup, n_nil, n_cons, s_unp, unp1_s, s_parE, par1_s, setAll_nil, setAll_cons, s_aug, aug1_s, aug2_i, aug2_t, aug3_s, s_app, app1_s, app2_s, s_ret, ret1_s, ret1_ite, s_if, if1_s, s_for, s_forT, for1_s, turnF_s, turnT_s, s_brk, s_cnt, s_pass, frzW_rng, frzW_ex,
 d_ev, d_nx, d_rt, d_ite, and_pure, or_pure, tru_bl, tru_int, tru_non, tru_str, tru_lst, tru_tup, pr_some, pr_gd, prB_some, prT_some, iniE, lawE, List.getElem?_cons_zero, List.getElem?_cons_succ, List.getElem?_nil, List.set_cons_zero, List.set_cons_succ, List.set_nil, List.map_cons, List.map_nil, List.nil_append, List.cons_append, List.append_nil, List.length_cons, List.length_nil, Nat.zero_le, Nat.reduceLeDiff, Nat.reduceAdd, List.replicate, ite_true, ite_false, if_true, if_false, Bool.false_eq_true, reduceIte, reduceCtorEq, ite_self, Bool.true_and, Bool.and_true, Bool.not_true, Bool.not_false, Bool.not_not, Option.map_some, Option.map_none, Pu.sizeLine_eq, cmp_ge, cmp_gt, cmp_le, cmp_lt, eq_i, eq_s, eq_b, ne_i, ne_s, ne_b, in_c, nin_c, op_add_i, op_add_s, op_add_t, op_add_l, op_sub_i, op_mul_r, op_mul_l, op_div_i, op_mod_i, bi_int, bi_intb, len_s, len_l, len_t, bi_list_t, bi_list_l, bi_tuple_t, bi_tuple_l, bi_min2, bi_max2, rev_s, rev_l, rev_t, sub_l, sub_t, sub_s, sl_l, sl_t, sl_s, at0, at1, at2, at3, lct_no, lct_yes, lctP_nm, l2T_nm, l2t1_s, ix_nm, ix_tp, lct1_s, lct2_s, lct3_s, gd_pos, hb, beqN0, hp0, decide_false, modN, divN, cut_hi, cut_lo]
  rfl
theorem between_other (h0 : one ≠ []) (h1 : one.length ≤ 60) (h2 : two.length ≤ 60) (h3 : mid.length ≤ 60) (hq : one ++ mid ≠ mid ++ two) : ∃ z r, F_between_paper [.str one, .str two, .str mid] pl = some (.tup (.str z :: r), pl) ∧ (z = sPlace ∨ z = sLen) := by
  have hb : (one ++ mid == mid ++ two) = false := by rw [beqL, decide_eq_false hq]
  have em : (if ((mid.length : Int) + (two.length : Int)) < ((one.length : Int) + (mid.length : Int)) then ((mid.length : Int) + (two.length : Int)) else ((one.length : Int) + (mid.length : Int))) = ((min one.length two.length + mid.length : Nat) : Int) := by split <;> omega
  generalize hs : min one.length two.length + mid.length = sz at em
  have q1 : (one ++ mid).length ≤ 16777216 := by simp; omega
  have q2 : (mid ++ two).length ≤ 16777216 := by simp; omega
  have n1 : (one ++ mid).length = one.length + mid.length := List.length_append
  have n2 : (mid ++ two).length = mid.length + two.length := List.length_append
  have ef := lc_rngF (turn := lcTurn 7 (.yes (.cmp .NotEq (.sub (.var 3) (.var 7)) (.sub (.var 4) (.var 7)))) (.var 7) [.val (.str one), .val (.str two), .val (.str mid), .val (.str (one ++ mid)), .val (.str (mid ++ two)), .val (.int (sz : Int)), .none, .none]) (pl := pl) (a := 0) (n := sz) (p := fun k => !decide ((one ++ mid)[k]? = (mid ++ two)[k]?)) (g := fun k => .int (k : Nat)) (fun k _ hk => by
    have g1 : k < (one ++ mid).length := by omega
    have g2 : k < (mid ++ two).length := by omega
    simp (disch := omega) only [gd_T, e_con, e_glob, e_var, rd_val, rd_own, e_bin, bin1_s, bin2_s, e_neg, neg1_s, e_cmp, cmp1_s, cmp2_s, e_chn, chn1_s, chn2_s, chn3_s, e_isK, isK1_s, e_bools, b_last, b_more, bolC_s, bolD_s, e_not, not1_s, e_ite, ite1_s, ite2_s, es_nil, es_cons, es1_s, es2_s, e_tup, e_lst, tup1_s, lst1_s,
 e_sub, sub1_s, sub2_s, o_none, o_some, o1_s, e_sl, sl1_s, sl2_s, sl3_s, e_rev, rev1_s, e_call, call1_s, e_callP, callP1_s, e_bi, bi1_s, e_me, me1_s, me2_s, e_isi, isi1_s, w_rngE, rng1_s, w_exE, wlk1_s, prL_some, walk_lst, walk_tup, walk_str, e_lc, lc1_s, lc2_s, e_lcP, lcP1_s, e_lc2, lcD1_s, e_lrng, lrng1_s, lrng2_s, e_sset, sset1_s, sset2_s, wipeE_nil, wipeE_cons, t_ev, tst1_s, ss_nil, ss_cons, seq_nx, seq_rt, seq_bk, seq_ct, seq_ite,
 s_asgV, s_asgO, asgV_s, asgO_s, settle_t, settle_c, frz_nil, frz_val, frz_none, frz_pool, frz_own, n_non, n_bl, n_int, n_str, n_lst, n_tup, n_nil, n_cons, s_unp, unp1_s, s_parE, par1_s, setAll_nil, setAll_cons, s_aug, aug1_s, aug2_i, aug2_t, aug3_s, s_app, app1_s, app2_s, s_ret, ret1_s, ret1_ite, s_if, if1_s, s_for, s_forT, for1_s, turnF_s, turnT_s, s_brk, s_cnt, s_pass, frzW_rng, frzW_ex,
 d_ev, d_nx, d_rt, d_ite, and_pure, or_pure, tru_bl, tru_int, tru_non, tru_str, tru_lst, tru_tup, pr_some, pr_gd, prB_some, prT_some, iniE, lawE, List.getElem?_cons_zero, List.getElem?_cons_succ, List.getElem?_nil, List.set_cons_zero, List.set_cons_succ, List.set_nil, List.map_cons, List.map_nil, List.nil_append, List.cons_append, List.append_nil, List.length_cons, List.length_nil, Nat.zero_le, Nat.reduceLeDiff, Nat.reduceAdd, List.replicate, ite_true, ite_false, if_true, if_false, Bool.false_eq_true, reduceIte, reduceCtorEq, ite_self, Bool.true_and, Bool.and_true, Bool.not_true, Bool.not_false, Bool.not_not, Option.map_some, Option.map_none, Pu.sizeLine_eq, cmp_ge, cmp_gt, cmp_le, cmp_lt, eq_i, eq_s, eq_b, ne_i, ne_s, ne_b, in_c, nin_c, op_add_i, op_add_s, op_add_t, op_add_l, op_sub_i, op_mul_r, op_mul_l, op_div_i, op_mod_i, bi_int, bi_intb, len_s, len_l, len_t, bi_list_t, bi_list_l, bi_tuple_t, bi_tuple_l, bi_min2, bi_max2, rev_s, rev_l, rev_t, sub_l, sub_t, sub_s, sl_l, sl_t, sl_s, at0, at1, at2, at3, lct_no, lct_yes, lctP_nm, l2T_nm, l2t1_s, ix_nm, ix_tp, lct1_s, lct2_s, lct3_s, gd_pos, letS g1, letS g2, beqL, let_ne g1 g2])
  unfold F_between_paper b_between_paper
  cases hf : (List.range' 0 sz).filter fun k => !decide ((one ++ mid)[k]? = (mid ++ two)[k]?) with
  | nil =>
    rw [hf, List.map_nil] at ef
    refine ⟨sLen, [], ?_, .inr rfl⟩
    simp (disch := omega) only [gd_T, e_con, e_glob, e_var, rd_val, rd_own, e_bin, bin1_s, bin2_s, e_neg, neg1_s, e_cmp, cmp1_s, cmp2_s, e_chn, chn1_s, chn2_s, chn3_s, e_isK, isK1_s, e_bools, b_last, b_more, bolC_s, bolD_s, e_not, not1_s, e_ite, ite1_s, ite2_s, es_nil, es_cons, es1_s, es2_s, e_tup, e_lst, tup1_s, lst1_s,
 e_sub, sub1_s, sub2_s, o_none, o_some, o1_s, e_sl, sl1_s, sl2_s, sl3_s, e_rev, rev1_s, e_call, call1_s, e_callP, callP1_s, e_bi, bi1_s, e_me, me1_s, me2_s, e_isi, isi1_s, w_rngE, rng1_s, w_exE, wlk1_s, prL_some, walk_lst, walk_tup, walk_str, e_lc, lc1_s, lc2_s, e_lcP, lcP1_s, e_lc2, lcD1_s, e_lrng, lrng1_s, lrng2_s, e_sset, sset1_s, sset2_s, wipeE_nil, wipeE_cons, t_ev, tst1_s, ss_nil, ss_cons, seq_nx, seq_rt, seq_bk, seq_ct, seq_ite,
 s_asgV, s_asgO, asgV_s, asgO_s, settle_t, settle_c, frz_nil, frz_val, frz_none, frz_pool, frz_own, n_non, n_bl, n_int, n_str, n_lst, n_tup, n_nil, n_cons, s_unp, unp1_s, s_parE, par1_s, setAll_nil, setAll_cons, s_aug, aug1_s, aug2_i, aug2_t, aug3_s, s_app, app1_s, app2_s, s_ret, ret1_s, ret1_ite, s_if, if1_s, s_for, s_forT, for1_s, turnF_s, turnT_s, s_brk, s_cnt, s_pass, frzW_rng, frzW_ex,
 d_ev, d_nx, d_rt, d_ite, and_pure, or_pure, tru_bl, tru_int, tru_non, tru_str, tru_lst, tru_tup, pr_some, pr_gd, prB_some, prT_some, iniE, lawE, List.getElem?_cons_zero, List.getElem?_cons_succ, List.getElem?_nil, List.set_cons_zero, List.set_cons_succ, List.set_nil, List.map_cons, List.map_nil, List.nil_append, List.cons_append, List.append_nil, List.length_cons, List.length_nil, Nat.zero_le, Nat.reduceLeDiff, Nat.reduceAdd, List.replicate, ite_true, ite_false, if_true, if_false, Bool.false_eq_true, reduceIte, reduceCtorEq, ite_self, Bool.true_and, Bool.and_true, Bool.not_true, Bool.not_false, Bool.not_not, Option.map_some, Option.map_none, Pu.sizeLine_eq, cmp_ge, cmp_gt, cmp_le, cmp_lt, eq_i, eq_s, eq_b, ne_i, ne_s, ne_b, in_c, nin_c, op_add_i, op_add_s, op_add_t, op_add_l, op_sub_i, op_mul_r, op_mul_l, op_div_i, op_mod_i, bi_int, bi_intb, len_s, len_l, len_t, bi_list_t, bi_list_l, bi_tuple_t, bi_tuple_l, bi_min2, bi_max2, rev_s, rev_l, rev_t, sub_l, sub_t, sub_s, sl_l, sl_t, sl_s, at0, at1, at2, at3, lct_no, lct_yes, lctP_nm, l2T_nm, l2t1_s, ix_nm, ix_tp, lct1_s, lct2_s, lct3_s, gd_pos, hb, q1, q2, n1, n2, Int.natCast_add, em, rngL_nat, rngD_A, ef, Int.ofNat_zero, show decide ((0 : Int) < ((0 : Nat) : Int)) = false from rfl, show decide ((0 : Int) < 0) = false from rfl, Int.natCast_zero]
    rfl
  | cons k t =>
    have hlt : t.length + 1 ≤ sz := by
      have : (k :: t).length ≤ sz := by rw [← hf]; exact Nat.le_trans (List.length_filter_le _ _) (by rw [List.length_range']; omega)
      exact this
    rw [hf, List.map_cons] at ef
    refine ⟨sPlace, [.int (k : Nat)], ?_, .inl rfl⟩
    have hd : decide ((0 : Int) < ((t.length + 1 : Nat) : Int)) = true := decide_eq_true (by omega)
    simp (disch := omega) only [gd_T, e_con, e_glob, e_var, rd_val, rd_own, e_bin, bin1_s, bin2_s, e_neg, neg1_s, e_cmp, cmp1_s, cmp2_s, e_chn, chn1_s, chn2_s, chn3_s, e_isK, isK1_s, e_bools, b_last, b_more, bolC_s, bolD_s, e_not, not1_s, e_ite, ite1_s, ite2_s, es_nil, es_cons, es1_s, es2_s, e_tup, e_lst, tup1_s, lst1_s,
 e_sub, sub1_s, sub2_s, o_none, o_some, o1_s, e_sl, sl1_s, sl2_s, sl3_s, e_rev, rev1_s, e_call, call1_s, e_callP, callP1_s, e_bi, bi1_s, e_me, me1_s, me2_s, e_isi, isi1_s, w_rngE, rng1_s, w_exE, wlk1_s, prL_some, walk_lst, walk_tup, walk_str, e_lc, lc1_s, lc2_s, e_lcP, lcP1_s, e_lc2, lcD1_s, e_lrng, lrng1_s, lrng2_s, e_sset, sset1_s, sset2_s, wipeE_nil, wipeE_cons, t_ev, tst1_s, ss_nil, ss_cons, seq_nx, seq_rt, seq_bk, seq_ct, seq_ite,
 s_asgV, s_asgO, asgV_s, asgO_s, settle_t, settle_c, frz_nil, frz_val, frz_none, frz_pool, frz_own, n_non, n_bl, n_int, n_str, n_lst, n_tup, n_nil, n_cons, s_unp, unp1_s, s_parE, par1_s, setAll_nil, setAll_cons, s_aug, aug1_s, aug2_i, aug2_t, aug3_s, s_app, app1_s, app2_s, s_ret, ret1_s, ret1_ite, s_if, if1_s, s_for, s_forT, for1_s, turnF_s, turnT_s, s_brk, s_cnt, s_pass, frzW_rng, frzW_ex,
 d_ev, d_nx, d_rt, d_ite, and_pure, or_pure, tru_bl, tru_int, tru_non, tru_str, tru_lst, tru_tup, pr_some, pr_gd, prB_some, prT_some, iniE, lawE, List.getElem?_cons_zero, List.getElem?_cons_succ, List.getElem?_nil, List.set_cons_zero, List.set_cons_succ, List.set_nil, List.map_cons, List.map_nil, List.nil_append, List.cons_append, List.append_nil, List.length_cons, List.length_nil, Nat.zero_le, Nat.reduceLeDiff, Nat.reduceAdd, List.replicate, ite_true, ite_false, if_true, if_false, Bool.false_eq_true, reduceIte, reduceCtorEq, ite_self, Bool.true_and, Bool.and_true, Bool.not_true, Bool.not_false, Bool.not_not, Option.map_some, Option.map_none, Pu.sizeLine_eq, cmp_ge, cmp_gt, cmp_le, cmp_lt, eq_i, eq_s, eq_b, ne_i, ne_s, ne_b, in_c, nin_c, op_add_i, op_add_s, op_add_t, op_add_l, op_sub_i, op_mul_r, op_mul_l, op_div_i, op_mod_i, bi_int, bi_intb, len_s, len_l, len_t, bi_list_t, bi_list_l, bi_tuple_t, bi_tuple_l, bi_min2, bi_max2, rev_s, rev_l, rev_t, sub_l, sub_t, sub_s, sl_l, sl_t, sl_s, at0, at1, at2, at3, lct_no, lct_yes, lctP_nm, l2T_nm, l2t1_s, ix_nm, ix_tp, lct1_s, lct2_s, lct3_s, gd_pos, hb, q1, q2, n1, n2, Int.natCast_add, em, rngL_nat, rngD_A, ef, List.length_map]
    first | rfl | (rw [if_pos (decide_eq_true (by omega))]; rfl)
theorem check_parts (h0 : one ≠ []) (h1 : wdW one) (h2 : wdW two) (h3 : mid.length ≤ 60) (hq : one ++ mid = mid ++ two) : F_check_between [.str one, .str two, .str mid, .tup [.str sParts, .str (one.take (mid.length % one.length)), .str (one.drop (mid.length % one.length)), .int ((mid.length / one.length : Nat) : Int)]] pl = some (.bl true, pl) := by
  have l1 := h1.1
  have l2 := h2.1
  have hp : 0 < one.length := List.length_pos_iff.mpr h0
  obtain ⟨g1, g2⟩ := between_words mid.length (one := one) (two := two) (mid := mid) rfl h0 hq
  have hdv : mid.length / one.length ≤ mid.length := Nat.div_le_self _ _
  generalize hk : mid.length % one.length = k at g1 g2
  generalize hj : mid.length / one.length = j at g2 hdv
  have wu := wdW_take (k := k) h1
  have wv := wdW_drop (k := k) h1
  have zu := sz_w (n := 10000000) wu (by decide)
  have zv := sz_w (n := 10000000) wv (by decide)
  have hkl : k ≤ one.length := by have := Nat.mod_lt mid.length hp; omega
  have lu : (one.take k).length = k := by rw [List.length_take]; omega
  have lv : (one.drop k).length = one.length - k := by rw [List.length_drop]
  have f1 : fromB (.int (j : Nat)) 0 (mid.length : Nat) = true := fromB_t (by omega) (by omega)
  have n1 : ∀ x y z : D, named (.tup [.str sParts, x, y, z]) [108, 101, 110, 103, 116, 104] 1 = false := fun x y z => by rw [named_tup]; rfl
  have n2 : ∀ x y z : D, named (.tup [.str sParts, x, y, z]) [102, 114, 101, 101] 1 = false := fun x y z => by rw [named_tup]; rfl
  have n3 : ∀ x y z : D, named (.tup [.str sParts, x, y, z]) [112, 108, 97, 99, 101] 2 = false := fun x y z => by rw [named_tup]; rfl
  have n4 : ∀ x y z : D, named (.tup [.str sParts, x, y, z]) [112, 97, 114, 116, 115] 4 = true := fun x y z => by rw [named_tup]; rfl
  have hz : ((((one.take k).length + (one.drop k).length : Nat) : Int) == 0) = false := by rw [beqN0, decide_eq_false (by omega)]
  have cut1 : cutL [D.str sParts, .str (one.take k), .str (one.drop k), .int (j : Nat)] (some 1) none = [.str (one.take k), .str (one.drop k), .int (j : Nat)] := cut_lo (i := 1)
  have s1 : (one.take k).length + (one.drop k).length ≤ 16777216 := by omega
  have s2 : (one.drop k).length + (one.take k).length ≤ 16777216 := by omega
  have m2 : pw j one ++ one.take k = mid := g2
  have m3 : (pw j one).length + (one.take k).length ≤ 16777216 := by
    have := congrArg List.length m2
    rw [List.length_append] at this
    omega
  have hb1 : (one == one) = true := by rw [beqL, decide_eq_true rfl]
  have hb2 : (two == two) = true := by rw [beqL, decide_eq_true rfl]
  have hb3 : (mid == mid) = true := by rw [beqL, decide_eq_true rfl]
  unfold F_check_between b_check_between
  simp (disch := omega) only [gd_T, e_con, e_glob, e_var, rd_val, rd_own, e_bin, bin1_s, bin2_s, e_neg, neg1_s, e_cmp, cmp1_s, cmp2_s, e_chn, chn1_s, chn2_s, chn3_s, e_isK, isK1_s, e_bools, b_last, b_more, bolC_s, bolD_s, e_not, not1_s, e_ite, ite1_s, ite2_s, es_nil, es_cons, es1_s, es2_s, e_tup, e_lst, tup1_s, lst1_s,
 e_sub, sub1_s, sub2_s, o_none, o_some, o1_s, e_sl, sl1_s, sl2_s, sl3_s, e_rev, rev1_s, e_call, call1_s, e_callP, callP1_s, e_bi, bi1_s, e_me, me1_s, me2_s, e_isi, isi1_s, w_rngE, rng1_s, w_exE, wlk1_s, prL_some, walk_lst, walk_tup, walk_str, e_lc, lc1_s, lc2_s, e_lcP, lcP1_s, e_lc2, lcD1_s, e_lrng, lrng1_s, lrng2_s, e_sset, sset1_s, sset2_s, wipeE_nil, wipeE_cons, t_ev, tst1_s, ss_nil, ss_cons, seq_nx, seq_rt, seq_bk, seq_ct, seq_ite,
 s_asgV, s_asgO, asgV_s, asgO_s, settle_t, settle_c, frz_nil, frz_val, frz_none, frz_pool, frz_own, n_non, n_bl, n_int, n_str, n_lst, n_tup, n_nil, n_cons, s_unp, unp1_s, s_parE, par1_s, setAll_nil, setAll_cons, s_aug, aug1_s, aug2_i, aug2_t, aug3_s, s_app, app1_s, app2_s, s_ret, ret1_s, ret1_ite, s_if, if1_s, s_for, s_forT, for1_s, turnF_s, turnT_s, s_brk, s_cnt, s_pass, frzW_rng, frzW_ex,
 d_ev, d_nx, d_rt, d_ite, and_pure, or_pure, tru_bl, tru_int, tru_non, tru_str, tru_lst, tru_tup, pr_some, pr_gd, prB_some, prT_some, iniE, lawE, List.getElem?_cons_zero, List.getElem?_cons_succ, List.getElem?_nil, List.set_cons_zero, List.set_cons_succ, List.set_nil, List.map_cons, List.map_nil, List.nil_append, List.cons_append, List.append_nil, List.length_cons, List.length_nil, Nat.zero_le, Nat.reduceLeDiff, Nat.reduceAdd, List.replicate, ite_true, ite_false, if_true, if_false, Bool.false_eq_true, reduceIte, reduceCtorEq, ite_self, Bool.true_and, Bool.and_true, Bool.not_true, Bool.not_false, Bool.not_not, Option.map_some, Option.map_none, Pu.sizeLine_eq, cmp_ge, cmp_gt, cmp_le, cmp_lt, eq_i, eq_s, eq_b, ne_i, ne_s, ne_b, in_c, nin_c, op_add_i, op_add_s, op_add_t, op_add_l, op_sub_i, op_mul_r, op_mul_l, op_div_i, op_mod_i, bi_int, bi_intb, len_s, len_l, len_t, bi_list_t, bi_list_l, bi_tuple_t, bi_tuple_l, bi_min2, bi_max2, rev_s, rev_l, rev_t, sub_l, sub_t, sub_s, sl_l, sl_t, sl_s, at0, at1, at2, at3, lct_no, lct_yes, lctP_nm, l2T_nm, l2t1_s, ix_nm, ix_tp, lct1_s, lct2_s, lct3_s, gd_pos, nm1, nm2, nm4, n1, n2, n3, n4, sub_t, at1, at2, at3, is_word_sz zu, is_word_sz zv, wdW_B wu, wdW_B wv, is_from_ev, f1, addN, hz, cut1, s1, s2, List.take_append_drop, g1, hb1, hb2, mulS, m3, m2, hb3]
theorem frz_slO {s : Pu.Slot} (h : slO s) {S : List Nat} {i : Nat} {env : Pu.Env} : frz S i (s :: env) = s :: frz S (i + 1) env := by
  rcases h with rfl | ⟨d, rfl⟩
  · exact frz_none
  · exact frz_val
theorem slO_of {s s' : Pu.Slot} (h : slO s) (k : s' = s ∨ ∃ x, s' = .val x) : slO s' := by
  rcases k with rfl | ⟨x, rfl⟩
  · exact h
  · exact .inr ⟨x, rfl⟩
theorem slO_v {d : D} : slO (.val d) := .inr ⟨d, rfl⟩
theorem slO_n : slO .none := .inl rfl
end
end Pu
set_option Elab.async false
set_option linter.all false
set_option maxRecDepth 100000
set_option maxHeartbeats 0
namespace Q28
open PySem PySem.Spec PyProof.Rows L2 Pu
def lb_two_paper_0 : Sts := (.cons (.par [7, 8] (.cons (.sub (.var 4) (.var 6)) (.cons (.sub (.var 4) (.bin .Add (.var 6) (.var 5))) .nil))) (.cons (.asg false 4 (.lc 9 (.ex (.var 4)) .no (.ite (.cmp .Eq (.var 9) (.var 8)) (.var 7) (.var 9)))) .nil))
def lb_two_paper_1 : Sts := (.cons (.for_ 6 (.rng (.cons (.bin .Sub (.var 2) (.var 5)) .nil)) lb_two_paper_0) .nil)
def b_two_paper : Sts := (.cons (.asg false 3 (.call "common" 2 F_common (.cons (.var 0) (.cons (.var 1) .nil)))) (.cons (.ite (.cmp .GtE (.var 2) (.bin .Sub (.bin .Add (.var 0) (.var 1)) (.var 3))) (.cons (.ret (.tup (.cons (.con (.str [108, 111, 110, 103])) .nil))) .nil) .nil) (.cons (.asg false 4 (.lrng (.cons (.var 2) .nil))) (.cons (.for_ 5 (.ex (.tup (.cons (.var 0) (.cons (.var 1) .nil)))) lb_two_paper_1) (.cons (.asg false 10 (.lc 6 (.rng (.cons (.bin .Sub (.var 2) (.var 3)) .nil)) (.yes (.cmp .NotEq (.sub (.var 4) (.var 6)) (.sub (.var 4) (.bin .Add (.var 6) (.var 3))))) (.var 6))) (.cons (.ite (.cmp .Eq (.bi .len (.cons (.var 10) .nil)) (.con (.int 0))) (.cons (.ret (.tup (.cons (.con (.str [115, 104, 111, 114, 116])) .nil))) .nil) .nil) (.cons (.asg false 11 (.sub (.var 4) (.sub (.var 10) (.con (.int 0))))) (.cons (.ret (.tup (.cons (.con (.str [119, 111, 114, 100])) (.cons (.me .join (.con (.str [])) (.cons (.lc 9 (.ex (.var 4)) .no (.ite (.cmp .Eq (.var 9) (.var 11)) (.con (.str [97])) (.con (.str [98])))) .nil)) .nil)))) .nil))))))))
def F_two_paper : Fnc := fun ds pl => evD fuel b_two_paper 12 false ds pl
def lb_law_0 : Sts := (.cons (.ite (.bools true (.cons (.cmp .LtE (.bin .Sub (.bin .Add (.var 16) (.var 17)) (.call "common" 2 F_common (.cons (.var 16) (.cons (.var 17) .nil)))) (.bi .len (.cons (.var 14) .nil))) (.cons (.cmp .NotIn (.call "common" 2 F_common (.cons (.var 16) (.cons (.var 17) .nil))) (.var 15)) .nil))) (.cons (.ret (.con (.bl false))) .nil) .nil) .nil)
def lb_law_1 : Sts := (.cons (.for_ 17 (.ex (.var 15)) lb_law_0) (.cons (.ite (.cmp .Gt (.bi .len (.cons (.lc 18 (.rng (.cons (.var 16) (.cons (.bin .Add (.bi .len (.cons (.var 14) .nil)) (.con (.int 1))) (.cons (.var 16) .nil)))) (.yes (.cmp .NotIn (.var 18) (.var 15))) (.var 18)) .nil)) (.con (.int 0))) (.cons (.ret (.con (.bl false))) .nil) .nil) .nil))
def t_law_20 : Sts := .cons (.ret (.bools true (.cons (.cmp .Eq (.sub (.var 12) (.con (.int 0))) (.con (.str [112, 97, 114, 116, 115]))) (.cons (.call "check_between" 4 F_check_between (.cons (.sl (.var 14) .no (.yes (.var 9))) (.cons (.sl (.var 14) (.yes (.bin .Sub (.bi .len (.cons (.var 14) .nil)) (.var 9))) .no) (.cons (.var 19) (.cons (.var 12) .nil))))) (.cons (.cmp .Eq (.bin .Add (.sub (.var 12) (.con (.int 1))) (.sub (.var 12) (.con (.int 2)))) (.sl (.var 14) .no (.yes (.var 9)))) .nil))))) .nil
def t_law_19 : Sts := .cons (.asg false 12 (.call "between_paper" 3 F_between_paper (.cons (.sl (.var 14) .no (.yes (.var 9))) (.cons (.sl (.var 14) (.yes (.bin .Sub (.bi .len (.cons (.var 14) .nil)) (.var 9))) .no) (.cons (.var 19) .nil))))) t_law_20
def t_law_18 : Sts := .cons (.asg false 19 (.sl (.var 14) .no (.yes (.bi .max (.cons (.con (.int 0)) (.cons (.bin .Sub (.bi .len (.cons (.var 14) .nil)) (.var 9)) .nil)))))) t_law_19
def t_law_17 : Sts := .cons (.asg false 9 (.call "period" 1 F_period (.cons (.var 14) .nil))) t_law_18
def t_law_16 : Sts := .cons (.ite (.cmp .Eq (.var 14) (.con (.str []))) (.cons (.ret (.bools true (.cons (.cmp .Eq (.call "period" 1 F_period (.cons (.var 14) .nil)) (.con (.int 0))) (.cons (.cmp .NotEq (.sub (.var 12) (.con (.int 0))) (.con (.str [102, 114, 101, 101]))) .nil)))) .nil) .nil) t_law_17
def t_law_15 : Sts := .cons (.ite (.cmp .NotEq (.cmp .Eq (.sub (.var 12) (.con (.int 0))) (.con (.str [112, 97, 114, 116, 115]))) (.cmp .Eq (.bin .Add (.var 2) (.var 14)) (.bin .Add (.var 14) (.var 3)))) (.cons (.ret (.con (.bl false))) .nil) .nil) t_law_16
def t_law_14 : Sts := .cons (.asg false 12 (.call "between_paper" 3 F_between_paper (.cons (.var 2) (.cons (.var 3) (.cons (.var 14) .nil))))) t_law_15
def t_law_13 : Sts := .cons (.for_ 16 (.ex (.var 15)) lb_law_1) t_law_14
def t_law_12 : Sts := .cons (.asg false 15 (.call "periods" 1 F_periods (.cons (.var 14) .nil))) t_law_13
def t_law_11 : Sts := .cons (.asg false 14 (.callP "_law_drawn" 3 F__law_drawn 1 (.cons (.con (.int 0)) (.cons (.con (.int 12)) (.cons (.con (.int 2)) .nil))))) t_law_12
def t_law_10 : Sts := .cons (.ite (.bools true (.cons (.cmp .Eq (.sub (.var 12) (.con (.int 0))) (.con (.str [115, 104, 111, 114, 116]))) (.cons (.cmp .Gt (.bi .min (.cons (.var 9) (.cons (.var 10) .nil))) (.var 13)) (.cons (.cmp .Eq (.var 11) (.bin .Sub (.bin .Sub (.bin .Add (.var 9) (.var 10)) (.var 13)) (.con (.int 1)))) .nil)))) (.cons (.ret (.con (.bl false))) .nil) .nil) t_law_11
def t_law_9 : Sts := .cons (.ite (.cmp .Eq (.sub (.var 12) (.con (.int 0))) (.con (.str [119, 111, 114, 100]))) (.cons (.asg false 14 (.sub (.var 12) (.con (.int 1)))) (.cons (.ite (.bools false (.cons (.cmp .GtE (.var 11) (.bin .Sub (.bin .Add (.var 9) (.var 10)) (.var 13))) (.cons (.notE (.call "has_period" 2 F_has_period (.cons (.var 14) (.cons (.var 9) .nil)))) (.cons (.notE (.call "has_period" 2 F_has_period (.cons (.var 14) (.cons (.var 10) .nil)))) (.cons (.call "has_period" 2 F_has_period (.cons (.var 14) (.cons (.var 13) .nil))) .nil))))) (.cons (.ret (.con (.bl false))) .nil) .nil) .nil)) .nil) t_law_10
def t_law_8 : Sts := .cons (.asg false 13 (.call "common" 2 F_common (.cons (.var 9) (.cons (.var 10) .nil)))) t_law_9
def t_law_7 : Sts := .cons (.asg false 12 (.call "two_paper" 3 F_two_paper (.cons (.var 9) (.cons (.var 10) (.cons (.var 11) .nil))))) t_law_8
def t_law_6 : Sts := .cons (.par [9, 10, 11] (.cons (.bin .Add (.con (.int 1)) (.callP "_law_pick" 1 F__law_pick 1 (.cons (.con (.int 7)) .nil))) (.cons (.bin .Add (.con (.int 1)) (.callP "_law_pick" 1 F__law_pick 1 (.cons (.con (.int 7)) .nil))) (.cons (.callP "_law_pick" 1 F__law_pick 1 (.cons (.con (.int 17)) .nil)) .nil)))) t_law_7
def t_law_5 : Sts := .cons (.ite (.bools false (.cons (.cmp .NotEq (.cmp .Eq (.var 7) (.var 8)) (.cmp .Eq (.sub (.call "together_paper" 2 F_together_paper (.cons (.var 2) (.cons (.var 3) .nil))) (.con (.int 0))) (.con (.str [112, 111, 119, 101, 114, 115])))) (.cons (.cmp .NotEq (.cmp .Eq (.var 7) (.var 8)) (.cmp .Eq (.call "root" 1 F_root (.cons (.var 2) .nil)) (.call "root" 1 F_root (.cons (.var 3) .nil)))) .nil))) (.cons (.ret (.con (.bl false))) .nil) .nil) t_law_6
def t_law_4 : Sts := .cons (.par [7, 8] (.cons (.sl (.bin .Mult (.var 2) (.con (.int 10))) .no (.yes (.var 6))) (.cons (.sl (.bin .Mult (.var 3) (.con (.int 10))) .no (.yes (.var 6))) .nil))) t_law_5
def t_law_3 : Sts := .cons (.asg false 6 (.bin .Sub (.bin .Add (.bi .len (.cons (.var 2) .nil)) (.bi .len (.cons (.var 3) .nil))) (.var 5))) t_law_4
def t_law_2 : Sts := .cons (.asg false 5 (.call "common" 2 F_common (.cons (.bi .len (.cons (.var 2) .nil)) (.cons (.bi .len (.cons (.var 3) .nil)) .nil)))) t_law_3
def t_law_1 : Sts := .cons (.ite (.cmp .Eq (.callP "_law_pick" 1 F__law_pick 1 (.cons (.con (.int 3)) .nil)) (.con (.int 0))) (.cons (.asg false 4 (.callP "_law_drawn" 3 F__law_drawn 1 (.cons (.con (.int 1)) (.cons (.con (.int 2)) (.cons (.con (.int 2)) .nil))))) (.cons (.par [2, 3] (.cons (.bin .Mult (.var 4) (.bin .Add (.con (.int 1)) (.callP "_law_pick" 1 F__law_pick 1 (.cons (.con (.int 2)) .nil)))) (.cons (.bin .Mult (.var 4) (.bin .Add (.con (.int 1)) (.callP "_law_pick" 1 F__law_pick 1 (.cons (.con (.int 3)) .nil)))) .nil))) .nil)) .nil) t_law_2
def t_law_0 : Sts := .cons (.par [2, 3] (.cons (.callP "_law_drawn" 3 F__law_drawn 1 (.cons (.con (.int 1)) (.cons (.con (.int 5)) (.cons (.con (.int 2)) .nil)))) (.cons (.callP "_law_drawn" 3 F__law_drawn 1 (.cons (.con (.int 1)) (.cons (.con (.int 5)) (.cons (.con (.int 2)) .nil)))) .nil))) t_law_1
def b_law : Sts := t_law_0
end Q28
set_option Elab.async false
set_option linter.all false
set_option maxRecDepth 100000
set_option maxHeartbeats 2000000
namespace Q28
open PySem PySem.Spec PyProof.Rows L2 Pu Wd

/-! ### a word with two periods -/
def mrg (R : List Nat) (lo hi : Nat) : List Nat := R.map fun r => if r = hi then lo else r
def stp (s : Nat) (R : List Nat) (k : Nat) : List Nat := mrg R (R.getD k 0) (R.getD (k + s) 0)
def runs1 (n s : Nat) (R : List Nat) : List Nat := (List.range' 0 (n - s)).foldl (stp s) R
def rootsR (p q n : Nat) : List Nat := runs1 n q (runs1 n p (List.range' 0 n))
def badR (d n : Nat) (R : List Nat) : List Nat := (List.range' 0 (n - d)).filter fun k => !decide (R.getD k 0 = R.getD (k + d) 0)
def wrd (R : List Nat) (b : Nat) : List Nat := R.map fun r => if r = R.getD b 0 then 97 else 98
def sLong : List Nat := [108, 111, 110, 103]
def sShort : List Nat := [115, 104, 111, 114, 116]
def sWord : List Nat := [119, 111, 114, 100]
def twoD (p q n : Nat) : D :=
  if p + q - Nat.gcd p q ≤ n then .tup [.str sLong] else
  match badR (Nat.gcd p q) n (rootsR p q n) with
  | [] => .tup [.str sShort]
  | b :: _ => .tup [.str sWord, .str (wrd (rootsR p q n) b)]
/-- what the law asks of it -/
def okTwo (p q n : Nat) : Bool :=
  decide (p + q - Nat.gcd p q ≤ n) ||
  match badR (Nat.gcd p q) n (rootsR p q n) with
  | [] => !(decide (Nat.gcd p q < min p q) && decide (n + 1 = p + q - Nat.gcd p q))
  | b :: _ => decide (apN (wrd (rootsR p q n) b) p = 0) && decide (apN (wrd (rootsR p q n) b) q = 0) && !decide (apN (wrd (rootsR p q n) b) (Nat.gcd p q) = 0)
theorem okTwo_all : ((List.range' 1 7).all fun p => (List.range' 1 7).all fun q => (List.range' 0 17).all fun n => okTwo p q n) = true := by decide +kernel
theorem okTwo_ok {p q n : Nat} (hp : 1 ≤ p) (hp7 : p ≤ 7) (hq : 1 ≤ q) (hq7 : q ≤ 7) (hn : n < 17) : okTwo p q n = true := by
  have h := okTwo_all
  rw [List.all_eq_true] at h
  have h := h p (by rw [List.mem_range'_1]; omega)
  rw [List.all_eq_true] at h
  have h := h q (by rw [List.mem_range'_1]; omega)
  rw [List.all_eq_true] at h
  exact h n (by rw [List.mem_range'_1]; omega)
section
variable {w one two mid : List Nat} {v : D} {pl : Pool}
theorem mrg_len {R : List Nat} {a b : Nat} : (mrg R a b).length = R.length := by simp [mrg]
def envT (p q n d : Nat) (R : List Nat) (s5 s6 : Slot) : Option (Int × Int) → Pu.Env
  | none => [.val (.int (p : Nat)), .val (.int (q : Nat)), .val (.int (n : Nat)), .val (.int (d : Nat)), .val (.lst (natsD R)), s5, s6, .none, .none, .none, .none, .none]
  | some (a, b) => [.val (.int (p : Nat)), .val (.int (q : Nat)), .val (.int (n : Nat)), .val (.int (d : Nat)), .val (.lst (natsD R)), s5, s6, .val (.int a), .val (.int b), .none, .none, .none]
theorem nats_at {R : List Nat} {k : Nat} (h : k < R.length) : opSub (.lst (natsD R)) (.int (k : Nat)) = some (.int (R.getD k 0 : Nat)) := by
  rw [sub_l, Pu.atI_nat]
  unfold natsD
  rw [List.getElem?_map, List.getElem?_eq_getElem h, List.getD_eq_getElem?_getD, List.getElem?_eq_getElem h]
  rfl
theorem two_turn {p q n d s k : Nat} {R : List Nat} (hR : R.length = n) (hn : n ≤ 1000) (hk : k + s < n) (s6 : Slot) (o : Option (Int × Int)) :
    turnF fuel 6 lb_two_paper_0 (.int (k : Nat)) (envT p q n d R (.val (.int (s : Nat))) s6 o) pl = some (.nx, envT p q n d (stp s R k) (.val (.int (s : Nat))) (.val (.int (k : Nat))) (some ((R.getD k 0 : Nat), (R.getD (k + s) 0 : Nat))), pl) := by
  have e : lcGo (lcTurn 9 .no (.ite (.cmp .Eq (.var 9) (.var 8)) (.var 7) (.var 9)) (envT p q n d R (.val (.int (s : Nat))) (.val (.int (k : Nat))) (some ((R.getD k 0 : Nat), (R.getD (k + s) 0 : Nat))))) (natsD R) pl = some (natsD (stp s R k), pl) := by
    have e := lc_map (turn := lcTurn 9 .no (.ite (.cmp .Eq (.var 9) (.var 8)) (.var 7) (.var 9)) (envT p q n d R (.val (.int (s : Nat))) (.val (.int (k : Nat))) (some ((R.getD k 0 : Nat), (R.getD (k + s) 0 : Nat))))) (pl := pl) (ds := natsD R) (g := fun x => match x with | .int i => .int (if i = (R.getD (k + s) 0 : Nat) then (R.getD k 0 : Nat) else i) | _ => .non) (fun x hx => by
      obtain ⟨r, hr, rfl⟩ := List.mem_map.mp hx
      unfold envT
      by_cases hh : r = R.getD (k + s) 0
      · simp (disch := omega) only [gd_T, e_con, e_glob, e_var, rd_val, rd_own, e_bin, bin1_s, bin2_s, e_neg, neg1_s, e_cmp, cmp1_s, cmp2_s, e_chn, chn1_s, chn2_s, chn3_s, e_isK, isK1_s, e_bools, b_last, b_more, bolC_s, bolD_s, e_not, not1_s, e_ite, ite1_s, ite2_s, es_nil, es_cons, es1_s, es2_s, e_tup, e_lst, tup1_s, lst1_s,
 e_sub, sub1_s, sub2_s, o_none, o_some, o1_s, e_sl, sl1_s, sl2_s, sl3_s, e_rev, rev1_s, e_call, call1_s, e_callP, callP1_s, e_bi, bi1_s, e_me, me1_s, me2_s, e_isi, isi1_s, w_rngE, rng1_s, w_exE, wlk1_s, prL_some, walk_lst, walk_tup, walk_str, e_lc, lc1_s, lc2_s, e_lcP, lcP1_s, e_lc2, lcD1_s, e_lrng, lrng1_s, lrng2_s, e_sset, sset1_s, sset2_s, wipeE_nil, wipeE_cons, t_ev, tst1_s, ss_nil, ss_cons, seq_nx, seq_rt, seq_bk, seq_ct, seq_ite,
 s_asgV, s_asgO, asgV_s, asgO_s, settle_t, settle_c, frz_nil, frz_val, frz_none, frz_pool, frz_own, n_non, n_bl, n_int, n_str, n_lst, n_tup, n_nil, n_cons, s_unp, unp1_s, s_parE, par1_s, setAll_nil, setAll_cons, s_aug, aug1_s, aug2_i, aug2_t, aug3_s, s_app, app1_s, app2_s, s_ret, ret1_s, ret1_ite, s_if, if1_s, s_for, s_forT, for1_s, turnF_s, turnT_s, s_brk, s_cnt, s_pass, frzW_rng, frzW_ex,
 d_ev, d_nx, d_rt, d_ite, and_pure, or_pure, tru_bl, tru_int, tru_non, tru_str, tru_lst, tru_tup, pr_some, pr_gd, prB_some, prT_some, iniE, lawE, List.getElem?_cons_zero, List.getElem?_cons_succ, List.getElem?_nil, List.set_cons_zero, List.set_cons_succ, List.set_nil, List.map_cons, List.map_nil, List.nil_append, List.cons_append, List.append_nil, List.length_cons, List.length_nil, Nat.zero_le, Nat.reduceLeDiff, Nat.reduceAdd, List.replicate, ite_true, ite_false, if_true, if_false, Bool.false_eq_true, reduceIte, reduceCtorEq, ite_self, Bool.true_and, Bool.and_true, Bool.not_true, Bool.not_false, Bool.not_not, Option.map_some, Option.map_none, Pu.sizeLine_eq, cmp_ge, cmp_gt, cmp_le, cmp_lt, eq_i, eq_s, eq_b, ne_i, ne_s, ne_b, in_c, nin_c, op_add_i, op_add_s, op_add_t, op_add_l, op_sub_i, op_mul_r, op_mul_l, op_div_i, op_mod_i, bi_int, bi_intb, len_s, len_l, len_t, bi_list_t, bi_list_l, bi_tuple_t, bi_tuple_l, bi_min2, bi_max2, rev_s, rev_l, rev_t, sub_l, sub_t, sub_s, sl_l, sl_t, sl_s, at0, at1, at2, at3, lct_no, lct_yes, lctP_nm, l2T_nm, l2t1_s, ix_nm, ix_tp, lct1_s, lct2_s, lct3_s, gd_pos, beqN, hh, decide_true]
      · have hh2 : ¬ ((r : Int) = ((R.getD (k + s) 0 : Nat) : Int)) := by omega
        simp (disch := omega) only [gd_T, e_con, e_glob, e_var, rd_val, rd_own, e_bin, bin1_s, bin2_s, e_neg, neg1_s, e_cmp, cmp1_s, cmp2_s, e_chn, chn1_s, chn2_s, chn3_s, e_isK, isK1_s, e_bools, b_last, b_more, bolC_s, bolD_s, e_not, not1_s, e_ite, ite1_s, ite2_s, es_nil, es_cons, es1_s, es2_s, e_tup, e_lst, tup1_s, lst1_s,
 e_sub, sub1_s, sub2_s, o_none, o_some, o1_s, e_sl, sl1_s, sl2_s, sl3_s, e_rev, rev1_s, e_call, call1_s, e_callP, callP1_s, e_bi, bi1_s, e_me, me1_s, me2_s, e_isi, isi1_s, w_rngE, rng1_s, w_exE, wlk1_s, prL_some, walk_lst, walk_tup, walk_str, e_lc, lc1_s, lc2_s, e_lcP, lcP1_s, e_lc2, lcD1_s, e_lrng, lrng1_s, lrng2_s, e_sset, sset1_s, sset2_s, wipeE_nil, wipeE_cons, t_ev, tst1_s, ss_nil, ss_cons, seq_nx, seq_rt, seq_bk, seq_ct, seq_ite,
 s_asgV, s_asgO, asgV_s, asgO_s, settle_t, settle_c, frz_nil, frz_val, frz_none, frz_pool, frz_own, n_non, n_bl, n_int, n_str, n_lst, n_tup, n_nil, n_cons, s_unp, unp1_s, s_parE, par1_s, setAll_nil, setAll_cons, s_aug, aug1_s, aug2_i, aug2_t, aug3_s, s_app, app1_s, app2_s, s_ret, ret1_s, ret1_ite, s_if, if1_s, s_for, s_forT, for1_s, turnF_s, turnT_s, s_brk, s_cnt, s_pass, frzW_rng, frzW_ex,
 d_ev, d_nx, d_rt, d_ite, and_pure, or_pure, tru_bl, tru_int, tru_non, tru_str, tru_lst, tru_tup, pr_some, pr_gd, prB_some, prT_some, iniE, lawE, List.getElem?_cons_zero, List.getElem?_cons_succ, List.getElem?_nil, List.set_cons_zero, List.set_cons_succ, List.set_nil, List.map_cons, List.map_nil, List.nil_append, List.cons_append, List.append_nil, List.length_cons, List.length_nil, Nat.zero_le, Nat.reduceLeDiff, Nat.reduceAdd, List.replicate, ite_true, ite_false, if_true, if_false, Bool.false_eq_true, reduceIte, reduceCtorEq, ite_self, Bool.true_and, Bool.and_true, Bool.not_true, Bool.not_false, Bool.not_not, Option.map_some, Option.map_none, Pu.sizeLine_eq, cmp_ge, cmp_gt, cmp_le, cmp_lt, eq_i, eq_s, eq_b, ne_i, ne_s, ne_b, in_c, nin_c, op_add_i, op_add_s, op_add_t, op_add_l, op_sub_i, op_mul_r, op_mul_l, op_div_i, op_mod_i, bi_int, bi_intb, len_s, len_l, len_t, bi_list_t, bi_list_l, bi_tuple_t, bi_tuple_l, bi_min2, bi_max2, rev_s, rev_l, rev_t, sub_l, sub_t, sub_s, sl_l, sl_t, sl_s, at0, at1, at2, at3, lct_no, lct_yes, lctP_nm, l2T_nm, l2t1_s, ix_nm, ix_tp, lct1_s, lct2_s, lct3_s, gd_pos, beqN, hh, decide_false, hh2])
    rw [e]
    congr 2
    unfold natsD stp mrg
    rw [List.map_map, List.map_map]
    apply List.map_congr_left
    intro r hr
    show D.int (if (r : Int) = ((R.getD (k + s) 0 : Nat) : Int) then ((R.getD k 0 : Nat) : Int) else (r : Int)) = D.int ((if r = R.getD (k + s) 0 then R.getD k 0 else r : Nat) : Int)
    congr 1
    split <;> split <;> omega
  unfold envT at e
  have hl : (natsD (stp s R k)).length ≤ 16777216 := by unfold natsD stp; rw [List.length_map, mrg_len]; omega
  have a1 := nats_at (R := R) (k := k) (by omega)
  have a2 := nats_at (R := R) (k := k + s) (by omega)
  unfold lb_two_paper_0 envT
  rcases o with _ | ⟨a, b⟩
  · simp (disch := omega) only [gd_T, e_con, e_glob, e_var, rd_val, rd_own, e_bin, bin1_s, bin2_s, e_neg, neg1_s, e_cmp, cmp1_s, cmp2_s, e_chn, chn1_s, chn2_s, chn3_s, e_isK, isK1_s, e_bools, b_last, b_more, bolC_s, bolD_s, e_not, not1_s, e_ite, ite1_s, ite2_s, es_nil, es_cons, es1_s, es2_s, e_tup, e_lst, tup1_s, lst1_s,
 e_sub, sub1_s, sub2_s, o_none, o_some, o1_s, e_sl, sl1_s, sl2_s, sl3_s, e_rev, rev1_s, e_call, call1_s, e_callP, callP1_s, e_bi, bi1_s, e_me, me1_s, me2_s, e_isi, isi1_s, w_rngE, rng1_s, w_exE, wlk1_s, prL_some, walk_lst, walk_tup, walk_str, e_lc, lc1_s, lc2_s, e_lcP, lcP1_s, e_lc2, lcD1_s, e_lrng, lrng1_s, lrng2_s, e_sset, sset1_s, sset2_s, wipeE_nil, wipeE_cons, t_ev, tst1_s, ss_nil, ss_cons, seq_nx, seq_rt, seq_bk, seq_ct, seq_ite,
 s_asgV, s_asgO, asgV_s, asgO_s, settle_t, settle_c, frz_nil, frz_val, frz_none, frz_pool, frz_own, n_non, n_bl, n_int, n_str, n_lst, n_tup, n_nil, n_cons, s_unp, unp1_s, s_parE, par1_s, setAll_nil, setAll_cons, s_aug, aug1_s, aug2_i, aug2_t, aug3_s, s_app, app1_s, app2_s, s_ret, ret1_s, ret1_ite, s_if, if1_s, s_for, s_forT, for1_s, turnF_s, turnT_s, s_brk, s_cnt, s_pass, frzW_rng, frzW_ex,
 d_ev, d_nx, d_rt, d_ite, and_pure, or_pure, tru_bl, tru_int, tru_non, tru_str, tru_lst, tru_tup, pr_some, pr_gd, prB_some, prT_some, iniE, lawE, List.getElem?_cons_zero, List.getElem?_cons_succ, List.getElem?_nil, List.set_cons_zero, List.set_cons_succ, List.set_nil, List.map_cons, List.map_nil, List.nil_append, List.cons_append, List.append_nil, List.length_cons, List.length_nil, Nat.zero_le, Nat.reduceLeDiff, Nat.reduceAdd, List.replicate, ite_true, ite_false, if_true, if_false, Bool.false_eq_true, reduceIte, reduceCtorEq, ite_self, Bool.true_and, Bool.and_true, Bool.not_true, Bool.not_false, Bool.not_not, Option.map_some, Option.map_none, Pu.sizeLine_eq, cmp_ge, cmp_gt, cmp_le, cmp_lt, eq_i, eq_s, eq_b, ne_i, ne_s, ne_b, in_c, nin_c, op_add_i, op_add_s, op_add_t, op_add_l, op_sub_i, op_mul_r, op_mul_l, op_div_i, op_mod_i, bi_int, bi_intb, len_s, len_l, len_t, bi_list_t, bi_list_l, bi_tuple_t, bi_tuple_l, bi_min2, bi_max2, rev_s, rev_l, rev_t, sub_l, sub_t, sub_s, sl_l, sl_t, sl_s, at0, at1, at2, at3, lct_no, lct_yes, lctP_nm, l2T_nm, l2t1_s, ix_nm, ix_tp, lct1_s, lct2_s, lct3_s, gd_pos, addN, a1, a2, e, hl]
  · simp (disch := omega) only [gd_T, e_con, e_glob, e_var, rd_val, rd_own, e_bin, bin1_s, bin2_s, e_neg, neg1_s, e_cmp, cmp1_s, cmp2_s, e_chn, chn1_s, chn2_s, chn3_s, e_isK, isK1_s, e_bools, b_last, b_more, bolC_s, bolD_s, e_not, not1_s, e_ite, ite1_s, ite2_s, es_nil, es_cons, es1_s, es2_s, e_tup, e_lst, tup1_s, lst1_s,
 e_sub, sub1_s, sub2_s, o_none, o_some, o1_s, e_sl, sl1_s, sl2_s, sl3_s, e_rev, rev1_s, e_call, call1_s, e_callP, callP1_s, e_bi, bi1_s, e_me, me1_s, me2_s, e_isi, isi1_s, w_rngE, rng1_s, w_exE, wlk1_s, prL_some, walk_lst, walk_tup, walk_str, e_lc, lc1_s, lc2_s, e_lcP, lcP1_s, e_lc2, lcD1_s, e_lrng, lrng1_s, lrng2_s, e_sset, sset1_s, sset2_s, wipeE_nil, wipeE_cons, t_ev, tst1_s, ss_nil, ss_cons, seq_nx, seq_rt, seq_bk, seq_ct, seq_ite,
 s_asgV, s_asgO, asgV_s, asgO_s, settle_t, settle_c, frz_nil, frz_val, frz_none, frz_pool, frz_own, n_non, n_bl, n_int, n_str, n_lst, n_tup, n_nil, n_cons, s_unp, unp1_s, s_parE, par1_s, setAll_nil, setAll_cons, s_aug, aug1_s, aug2_i, aug2_t, aug3_s, s_app, app1_s, app2_s, s_ret, ret1_s, ret1_ite, s_if, if1_s, s_for, s_forT, for1_s, turnF_s, turnT_s, s_brk, s_cnt, s_pass, frzW_rng, frzW_ex,
 d_ev, d_nx, d_rt, d_ite, and_pure, or_pure, tru_bl, tru_int, tru_non, tru_str, tru_lst, tru_tup, pr_some, pr_gd, prB_some, prT_some, iniE, lawE, List.getElem?_cons_zero, List.getElem?_cons_succ, List.getElem?_nil, List.set_cons_zero, List.set_cons_succ, List.set_nil, List.map_cons, List.map_nil, List.nil_append, List.cons_append, List.append_nil, List.length_cons, List.length_nil, Nat.zero_le, Nat.reduceLeDiff, Nat.reduceAdd, List.replicate, ite_true, ite_false, if_true, if_false, Bool.false_eq_true, reduceIte, reduceCtorEq, ite_self, Bool.true_and, Bool.and_true, Bool.not_true, Bool.not_false, Bool.not_not, Option.map_some, Option.map_none, Pu.sizeLine_eq, cmp_ge, cmp_gt, cmp_le, cmp_lt, eq_i, eq_s, eq_b, ne_i, ne_s, ne_b, in_c, nin_c, op_add_i, op_add_s, op_add_t, op_add_l, op_sub_i, op_mul_r, op_mul_l, op_div_i, op_mod_i, bi_int, bi_intb, len_s, len_l, len_t, bi_list_t, bi_list_l, bi_tuple_t, bi_tuple_l, bi_min2, bi_max2, rev_s, rev_l, rev_t, sub_l, sub_t, sub_s, sl_l, sl_t, sl_s, at0, at1, at2, at3, lct_no, lct_yes, lctP_nm, l2T_nm, l2t1_s, ix_nm, ix_tp, lct1_s, lct2_s, lct3_s, gd_pos, addN, a1, a2, e, hl]
theorem stp_len {s k : Nat} {R : List Nat} : (stp s R k).length = R.length := mrg_len
theorem two_inner {p q n d s : Nat} (hn : n ≤ 1000) : ∀ (l : List Nat) (R : List Nat) (s6 : Slot) (o : Option (Int × Int)), R.length = n → (∀ k ∈ l, k + s < n) →
    ∃ s' o', (s' = s6 ∨ ∃ d, s' = .val d) ∧ (l.foldl (stp s) R).length = n ∧ forGo (turnF fuel 6 lb_two_paper_0) (natsD l) (envT p q n d R (.val (.int (s : Nat))) s6 o) pl = some (.nx, envT p q n d (l.foldl (stp s) R) (.val (.int (s : Nat))) s' o', pl)
  | [], R, s6, o, hR, _ => ⟨s6, o, .inl rfl, hR, rfl⟩
  | k :: l, R, s6, o, hR, hl => by
    have ht := two_turn (pl := pl) (p := p) (q := q) (d := d) hR hn (hl k List.mem_cons_self) s6 o
    obtain ⟨s', o', h1, h2, h3⟩ := two_inner hn l (stp s R k) (.val (.int (k : Nat))) (some ((R.getD k 0 : Nat), (R.getD (k + s) 0 : Nat))) (by rw [stp_len, hR]) fun j hj => hl j (List.mem_cons_of_mem _ hj)
    refine ⟨s', o', .inr ?_, h2, ?_⟩
    · rcases h1 with h1 | h1
      · exact ⟨_, h1⟩
      · exact h1
    · show forGo _ (.int (k : Nat) :: natsD l) _ _ = _
      unfold forGo
      rw [ht]
      exact h3
theorem two_outer {p q n d s : Nat} (hn : n ≤ 1000) (hs : s ≤ 1000) (R : List Nat) (s5 s6 : Slot) (o : Option (Int × Int)) (hR : R.length = n) :
    ∃ s' o', (s' = s6 ∨ ∃ d, s' = .val d) ∧ (runs1 n s R).length = n ∧ turnF fuel 5 lb_two_paper_1 (.int (s : Nat)) (envT p q n d R s5 s6 o) pl = some (.nx, envT p q n d (runs1 n s R) (.val (.int (s : Nat))) s' o', pl) := by
  obtain ⟨s', o', h1, h2, h3⟩ := two_inner (pl := pl) (p := p) (q := q) (d := d) (s := s) hn (List.range' 0 (n - s)) R s6 o hR fun k hk => by rw [List.mem_range'_1] at hk; omega
  have e0 : rngL [.int ((n : Int) - (s : Int))] = some (natsD (List.range' 0 (n - s))) := by
    rw [rngL_int (by omega) (by omega), rngD_A]
    have : ((n : Int) - (s : Int)).toNat = n - s := by omega
    rw [this]
    rfl
  refine ⟨s', o', h1, h2, ?_⟩
  unfold envT at h3
  unfold lb_two_paper_1 envT
  rcases o with _ | ⟨a, b⟩ <;> simp (disch := omega) only [gd_T, e_con, e_glob, e_var, rd_val, rd_own, e_bin, bin1_s, bin2_s, e_neg, neg1_s, e_cmp, cmp1_s, cmp2_s, e_chn, chn1_s, chn2_s, chn3_s, e_isK, isK1_s, e_bools, b_last, b_more, bolC_s, bolD_s, e_not, not1_s, e_ite, ite1_s, ite2_s, es_nil, es_cons, es1_s, es2_s, e_tup, e_lst, tup1_s, lst1_s,
 e_sub, sub1_s, sub2_s, o_none, o_some, o1_s, e_sl, sl1_s, sl2_s, sl3_s, e_rev, rev1_s, e_call, call1_s, e_callP, callP1_s, e_bi, bi1_s, e_me, me1_s, me2_s, e_isi, isi1_s, w_rngE, rng1_s, w_exE, wlk1_s, prL_some, walk_lst, walk_tup, walk_str, e_lc, lc1_s, lc2_s, e_lcP, lcP1_s, e_lc2, lcD1_s, e_lrng, lrng1_s, lrng2_s, e_sset, sset1_s, sset2_s, wipeE_nil, wipeE_cons, t_ev, tst1_s, ss_nil, ss_cons, seq_nx, seq_rt, seq_bk, seq_ct, seq_ite,
 s_asgV, s_asgO, asgV_s, asgO_s, settle_t, settle_c, frz_nil, frz_val, frz_none, frz_pool, frz_own, n_non, n_bl, n_int, n_str, n_lst, n_tup, n_nil, n_cons, s_unp, unp1_s, s_parE, par1_s, setAll_nil, setAll_cons, s_aug, aug1_s, aug2_i, aug2_t, aug3_s, s_app, app1_s, app2_s, s_ret, ret1_s, ret1_ite, s_if, if1_s, s_for, s_forT, for1_s, turnF_s, turnT_s, s_brk, s_cnt, s_pass, frzW_rng, frzW_ex,
 d_ev, d_nx, d_rt, d_ite, and_pure, or_pure, tru_bl, tru_int, tru_non, tru_str, tru_lst, tru_tup, pr_some, pr_gd, prB_some, prT_some, iniE, lawE, List.getElem?_cons_zero, List.getElem?_cons_succ, List.getElem?_nil, List.set_cons_zero, List.set_cons_succ, List.set_nil, List.map_cons, List.map_nil, List.nil_append, List.cons_append, List.append_nil, List.length_cons, List.length_nil, Nat.zero_le, Nat.reduceLeDiff, Nat.reduceAdd, List.replicate, ite_true, ite_false, if_true, if_false, Bool.false_eq_true, reduceIte, reduceCtorEq, ite_self, Bool.true_and, Bool.and_true, Bool.not_true, Bool.not_false, Bool.not_not, Option.map_some, Option.map_none, Pu.sizeLine_eq, cmp_ge, cmp_gt, cmp_le, cmp_lt, eq_i, eq_s, eq_b, ne_i, ne_s, ne_b, in_c, nin_c, op_add_i, op_add_s, op_add_t, op_add_l, op_sub_i, op_mul_r, op_mul_l, op_div_i, op_mod_i, bi_int, bi_intb, len_s, len_l, len_t, bi_list_t, bi_list_l, bi_tuple_t, bi_tuple_l, bi_min2, bi_max2, rev_s, rev_l, rev_t, sub_l, sub_t, sub_s, sl_l, sl_t, sl_s, at0, at1, at2, at3, lct_no, lct_yes, lctP_nm, l2T_nm, l2t1_s, ix_nm, ix_tp, lct1_s, lct2_s, lct3_s, gd_pos, e0] <;> rw [h3] <;> (cases o' <;> simp (disch := omega) only [gd_T, e_con, e_glob, e_var, rd_val, rd_own, e_bin, bin1_s, bin2_s, e_neg, neg1_s, e_cmp, cmp1_s, cmp2_s, e_chn, chn1_s, chn2_s, chn3_s, e_isK, isK1_s, e_bools, b_last, b_more, bolC_s, bolD_s, e_not, not1_s, e_ite, ite1_s, ite2_s, es_nil, es_cons, es1_s, es2_s, e_tup, e_lst, tup1_s, lst1_s,
 e_sub, sub1_s, sub2_s, o_none, o_some, o1_s, e_sl, sl1_s, sl2_s, sl3_s, e_rev, rev1_s, e_call, call1_s, e_callP, callP1_s, e_bi, bi1_s, e_me, me1_s, me2_s, e_isi, isi1_s, w_rngE, rng1_s, w_exE, wlk1_s, prL_some, walk_lst, walk_tup, walk_str, e_lc, lc1_s, lc2_s, e_lcP, lcP1_s, e_lc2, lcD1_s, e_lrng, lrng1_s, lrng2_s, e_sset, sset1_s, sset2_s, wipeE_nil, wipeE_cons, t_ev, tst1_s, ss_nil, ss_cons, seq_nx, seq_rt, seq_bk, seq_ct, seq_ite,
 s_asgV, s_asgO, asgV_s, asgO_s, settle_t, settle_c, frz_nil, frz_val, frz_none, frz_pool, frz_own, n_non, n_bl, n_int, n_str, n_lst, n_tup, n_nil, n_cons, s_unp, unp1_s, s_parE, par1_s, setAll_nil, setAll_cons, s_aug, aug1_s, aug2_i, aug2_t, aug3_s, s_app, app1_s, app2_s, s_ret, ret1_s, ret1_ite, s_if, if1_s, s_for, s_forT, for1_s, turnF_s, turnT_s, s_brk, s_cnt, s_pass, frzW_rng, frzW_ex,
 d_ev, d_nx, d_rt, d_ite, and_pure, or_pure, tru_bl, tru_int, tru_non, tru_str, tru_lst, tru_tup, pr_some, pr_gd, prB_some, prT_some, iniE, lawE, List.getElem?_cons_zero, List.getElem?_cons_succ, List.getElem?_nil, List.set_cons_zero, List.set_cons_succ, List.set_nil, List.map_cons, List.map_nil, List.nil_append, List.cons_append, List.append_nil, List.length_cons, List.length_nil, Nat.zero_le, Nat.reduceLeDiff, Nat.reduceAdd, List.replicate, ite_true, ite_false, if_true, if_false, Bool.false_eq_true, reduceIte, reduceCtorEq, ite_self, Bool.true_and, Bool.and_true, Bool.not_true, Bool.not_false, Bool.not_not, Option.map_some, Option.map_none, Pu.sizeLine_eq, cmp_ge, cmp_gt, cmp_le, cmp_lt, eq_i, eq_s, eq_b, ne_i, ne_s, ne_b, in_c, nin_c, op_add_i, op_add_s, op_add_t, op_add_l, op_sub_i, op_mul_r, op_mul_l, op_div_i, op_mod_i, bi_int, bi_intb, len_s, len_l, len_t, bi_list_t, bi_list_l, bi_tuple_t, bi_tuple_l, bi_min2, bi_max2, rev_s, rev_l, rev_t, sub_l, sub_t, sub_s, sl_l, sl_t, sl_s, at0, at1, at2, at3, lct_no, lct_yes, lctP_nm, l2T_nm, l2t1_s, ix_nm, ix_tp, lct1_s, lct2_s, lct3_s, gd_pos] <;> rfl)
theorem nats_ne {R : List Nat} {d k : Nat} (h : k + d < R.length) (hk : k < R.length) : opCmp .NotEq (.int (R.getD k 0 : Nat)) (.int (R.getD (k + d) 0 : Nat)) = some (!decide (R.getD k 0 = R.getD (k + d) 0)) := by
  rw [ne_i, beqN]
theorem two_paper_ev {p q n : Nat} (hp : 1 ≤ p) (hp7 : p ≤ 7) (hq : 1 ≤ q) (hq7 : q ≤ 7) (hn : n < 17) : F_two_paper [.int (p : Nat), .int (q : Nat), .int (n : Nat)] pl = some (twoD p q n, pl) := by
  have hg1 : Nat.gcd p q ≤ p := Nat.le_of_dvd hp (Nat.gcd_dvd_left p q)
  have hg0 : 0 < Nat.gcd p q := Nat.gcd_pos_of_pos_left _ hp
  unfold F_two_paper b_two_paper twoD
  by_cases hl : p + q - Nat.gcd p q ≤ n
  · have hd : (!decide ((n : Int) < ((p + q - Nat.gcd p q : Nat) : Int))) = true := by rw [decide_eq_false (by omega)]; rfl
    rw [if_pos hl]
    simp (disch := omega) only [gd_T, e_con, e_glob, e_var, rd_val, rd_own, e_bin, bin1_s, bin2_s, e_neg, neg1_s, e_cmp, cmp1_s, cmp2_s, e_chn, chn1_s, chn2_s, chn3_s, e_isK, isK1_s, e_bools, b_last, b_more, bolC_s, bolD_s, e_not, not1_s, e_ite, ite1_s, ite2_s, es_nil, es_cons, es1_s, es2_s, e_tup, e_lst, tup1_s, lst1_s,
 e_sub, sub1_s, sub2_s, o_none, o_some, o1_s, e_sl, sl1_s, sl2_s, sl3_s, e_rev, rev1_s, e_call, call1_s, e_callP, callP1_s, e_bi, bi1_s, e_me, me1_s, me2_s, e_isi, isi1_s, w_rngE, rng1_s, w_exE, wlk1_s, prL_some, walk_lst, walk_tup, walk_str, e_lc, lc1_s, lc2_s, e_lcP, lcP1_s, e_lc2, lcD1_s, e_lrng, lrng1_s, lrng2_s, e_sset, sset1_s, sset2_s, wipeE_nil, wipeE_cons, t_ev, tst1_s, ss_nil, ss_cons, seq_nx, seq_rt, seq_bk, seq_ct, seq_ite,
 s_asgV, s_asgO, asgV_s, asgO_s, settle_t, settle_c, frz_nil, frz_val, frz_none, frz_pool, frz_own, n_non, n_bl, n_int, n_str, n_lst, n_tup, n_nil, n_cons, s_unp, unp1_s, s_parE, par1_s, setAll_nil, setAll_cons, s_aug, aug1_s, aug2_i, aug2_t, aug3_s, s_app, app1_s, app2_s, s_ret, ret1_s, ret1_ite, s_if, if1_s, s_for, s_forT, for1_s, turnF_s, turnT_s, s_brk, s_cnt, s_pass, frzW_rng, frzW_ex,
 d_ev, d_nx, d_rt, d_ite, and_pure, or_pure, tru_bl, tru_int, tru_non, tru_str, tru_lst, tru_tup, pr_some, pr_gd, prB_some, prT_some, iniE, lawE, List.getElem?_cons_zero, List.getElem?_cons_succ, List.getElem?_nil, List.set_cons_zero, List.set_cons_succ, List.set_nil, List.map_cons, List.map_nil, List.nil_append, List.cons_append, List.append_nil, List.length_cons, List.length_nil, Nat.zero_le, Nat.reduceLeDiff, Nat.reduceAdd, List.replicate, ite_true, ite_false, if_true, if_false, Bool.false_eq_true, reduceIte, reduceCtorEq, ite_self, Bool.true_and, Bool.and_true, Bool.not_true, Bool.not_false, Bool.not_not, Option.map_some, Option.map_none, Pu.sizeLine_eq, cmp_ge, cmp_gt, cmp_le, cmp_lt, eq_i, eq_s, eq_b, ne_i, ne_s, ne_b, in_c, nin_c, op_add_i, op_add_s, op_add_t, op_add_l, op_sub_i, op_mul_r, op_mul_l, op_div_i, op_mod_i, bi_int, bi_intb, len_s, len_l, len_t, bi_list_t, bi_list_l, bi_tuple_t, bi_tuple_l, bi_min2, bi_max2, rev_s, rev_l, rev_t, sub_l, sub_t, sub_s, sl_l, sl_t, sl_s, at0, at1, at2, at3, lct_no, lct_yes, lctP_nm, l2T_nm, l2t1_s, ix_nm, ix_tp, lct1_s, lct2_s, lct3_s, gd_pos, common_ev (show q < 1000000 by omega), addN, subN, hd]
    rfl
  · have hd : (!decide ((n : Int) < ((p + q - Nat.gcd p q : Nat) : Int))) = false := by rw [decide_eq_true (by omega)]; rfl
    rw [if_neg hl]
    obtain ⟨s1, o1, k1, L1, t1⟩ := two_outer (pl := pl) (p := p) (q := q) (d := Nat.gcd p q) (s := p) (n := n) (by omega) (by omega) (List.range' 0 n) .none .none none (by simp)
    obtain ⟨s2, o2, k2, L2, t2⟩ := two_outer (pl := pl) (p := p) (q := q) (d := Nat.gcd p q) (s := q) (n := n) (by omega) (by omega) (runs1 n p (List.range' 0 n)) (.val (.int (p : Nat))) s1 o1 L1
    have R2 : runs1 n q (runs1 n p (List.range' 0 n)) = rootsR p q n := rfl
    rw [R2] at t2 L2
    have loop : forGo (turnF fuel 5 lb_two_paper_1) [.int (p : Nat), .int (q : Nat)] [.val (.int (p : Nat)), .val (.int (q : Nat)), .val (.int (n : Nat)), .val (.int (Nat.gcd p q : Nat)), .val (.lst (natsD (List.range' 0 n))), .none, .none, .none, .none, .none, .none, .none] pl = some (.nx, envT p q n (Nat.gcd p q) (rootsR p q n) (.val (.int (q : Nat))) s2 o2, pl) := by
      have t1 : turnF fuel 5 lb_two_paper_1 (.int (p : Nat)) [.val (.int (p : Nat)), .val (.int (q : Nat)), .val (.int (n : Nat)), .val (.int (Nat.gcd p q : Nat)), .val (.lst (natsD (List.range' 0 n))), .none, .none, .none, .none, .none, .none, .none] pl = _ := t1
      unfold forGo
      rw [t1]
      show forGo _ [_] _ _ = _
      unfold forGo
      rw [t2]
      rfl
    have e0 : rngL [.int (n : Nat)] = some (natsD (List.range' 0 n)) := by rw [rngL_nat (by omega), rngD_A]; rfl
    have e1 : rngL [.int ((n - Nat.gcd p q : Nat) : Int)] = some (rngA 0 (n - Nat.gcd p q)) := by rw [rngL_nat (by omega), rngD_A]
    have hgn : n = 0 ∨ Nat.gcd p q ≤ n ∨ n < Nat.gcd p q := by omega
    have e1' : rngL [.int ((n : Int) - (Nat.gcd p q : Int))] = some (rngA 0 (n - Nat.gcd p q)) := by
      rw [rngL_int (by omega) (by omega), rngD_A, show ((n : Int) - (Nat.gcd p q : Int)).toNat = n - Nat.gcd p q by omega]
    have hln : (natsD (List.range' 0 n)).length ≤ 16777216 := by unfold natsD; simp; omega
    have elc : ∀ (s6 : Slot) (o : Option (Int × Int)), lcGo (lcTurn 6 (.yes (.cmp .NotEq (.sub (.var 4) (.var 6)) (.sub (.var 4) (.bin .Add (.var 6) (.var 3))))) (.var 6) (envT p q n (Nat.gcd p q) (rootsR p q n) (.val (.int (q : Nat))) s6 o)) (rngA 0 (n - Nat.gcd p q)) pl = some (natsD (badR (Nat.gcd p q) n (rootsR p q n)), pl) := by
      intro s6 o
      refine lc_rngF (p := fun k => !decide ((rootsR p q n).getD k 0 = (rootsR p q n).getD (k + Nat.gcd p q) 0)) (g := fun k => .int (k : Nat)) fun k _ hk => ?_
      have a1 := nats_at (R := rootsR p q n) (k := k) (by omega)
      have a2 := nats_at (R := rootsR p q n) (k := k + Nat.gcd p q) (by omega)
      unfold envT
      cases o <;> simp (disch := omega) only [gd_T, e_con, e_glob, e_var, rd_val, rd_own, e_bin, bin1_s, bin2_s, e_neg, neg1_s, e_cmp, cmp1_s, cmp2_s, e_chn, chn1_s, chn2_s, chn3_s, e_isK, isK1_s, e_bools, b_last, b_more, bolC_s, bolD_s, e_not, not1_s, e_ite, ite1_s, ite2_s, es_nil, es_cons, es1_s, es2_s, e_tup, e_lst, tup1_s, lst1_s,
 e_sub, sub1_s, sub2_s, o_none, o_some, o1_s, e_sl, sl1_s, sl2_s, sl3_s, e_rev, rev1_s, e_call, call1_s, e_callP, callP1_s, e_bi, bi1_s, e_me, me1_s, me2_s, e_isi, isi1_s, w_rngE, rng1_s, w_exE, wlk1_s, prL_some, walk_lst, walk_tup, walk_str, e_lc, lc1_s, lc2_s, e_lcP, lcP1_s, e_lc2, lcD1_s, e_lrng, lrng1_s, lrng2_s, e_sset, sset1_s, sset2_s, wipeE_nil, wipeE_cons, t_ev, tst1_s, ss_nil, ss_cons, seq_nx, seq_rt, seq_bk, seq_ct, seq_ite,
 s_asgV, s_asgO, asgV_s, asgO_s, settle_t, settle_c, frz_nil, frz_val, frz_none, frz_pool, frz_own, n_non, n_bl, n_int, n_str, n_lst, n_tup, n_nil, n_cons, s_unp, unp1_s, s_parE, par1_s, setAll_nil, setAll_cons, s_aug, aug1_s, aug2_i, aug2_t, aug3_s, s_app, app1_s, app2_s, s_ret, ret1_s, ret1_ite, s_if, if1_s, s_for, s_forT, for1_s, turnF_s, turnT_s, s_brk, s_cnt, s_pass, frzW_rng, frzW_ex,
 d_ev, d_nx, d_rt, d_ite, and_pure, or_pure, tru_bl, tru_int, tru_non, tru_str, tru_lst, tru_tup, pr_some, pr_gd, prB_some, prT_some, iniE, lawE, List.getElem?_cons_zero, List.getElem?_cons_succ, List.getElem?_nil, List.set_cons_zero, List.set_cons_succ, List.set_nil, List.map_cons, List.map_nil, List.nil_append, List.cons_append, List.append_nil, List.length_cons, List.length_nil, Nat.zero_le, Nat.reduceLeDiff, Nat.reduceAdd, List.replicate, ite_true, ite_false, if_true, if_false, Bool.false_eq_true, reduceIte, reduceCtorEq, ite_self, Bool.true_and, Bool.and_true, Bool.not_true, Bool.not_false, Bool.not_not, Option.map_some, Option.map_none, Pu.sizeLine_eq, cmp_ge, cmp_gt, cmp_le, cmp_lt, eq_i, eq_s, eq_b, ne_i, ne_s, ne_b, in_c, nin_c, op_add_i, op_add_s, op_add_t, op_add_l, op_sub_i, op_mul_r, op_mul_l, op_div_i, op_mod_i, bi_int, bi_intb, len_s, len_l, len_t, bi_list_t, bi_list_l, bi_tuple_t, bi_tuple_l, bi_min2, bi_max2, rev_s, rev_l, rev_t, sub_l, sub_t, sub_s, sl_l, sl_t, sl_s, at0, at1, at2, at3, lct_no, lct_yes, lctP_nm, l2T_nm, l2t1_s, ix_nm, ix_tp, lct1_s, lct2_s, lct3_s, gd_pos, addN, a1, a2, beqN]
    have ss1 : slO s1 := by
      rcases k1 with rfl | ⟨d, rfl⟩
      · exact .inl rfl
      · exact .inr ⟨d, rfl⟩
    have ss2 : slO s2 := by
      rcases k2 with rfl | ⟨d, rfl⟩
      · exact ss1
      · exact .inr ⟨d, rfl⟩
    have ejn : ∀ (s6 : Slot) (o : Option (Int × Int)) (b : Nat) (B : D), lcGo (lcTurn 9 .no (.ite (.cmp .Eq (.var 9) (.var 11)) (.con (.str [97])) (.con (.str [98]))) ((envT p q n (Nat.gcd p q) (rootsR p q n) (.val (.int (q : Nat))) s6 o).set 10 (.val B) |>.set 11 (.val (.int ((rootsR p q n).getD b 0 : Nat))))) (natsD (rootsR p q n)) pl = some ((wrd (rootsR p q n) b).map fun c => .str [c], pl) := by
      intro s6 o b B
      have e := lc_map (turn := lcTurn 9 .no (.ite (.cmp .Eq (.var 9) (.var 11)) (.con (.str [97])) (.con (.str [98]))) ((envT p q n (Nat.gcd p q) (rootsR p q n) (.val (.int (q : Nat))) s6 o).set 10 (.val B) |>.set 11 (.val (.int ((rootsR p q n).getD b 0 : Nat))))) (pl := pl) (ds := natsD (rootsR p q n)) (g := fun x => match x with | .int i => .str [if i = ((rootsR p q n).getD b 0 : Nat) then 97 else 98] | _ => .non) (fun x hx => by
        obtain ⟨r, hr, rfl⟩ := List.mem_map.mp hx
        unfold envT
        by_cases hh : r = (rootsR p q n).getD b 0
        · cases o <;> simp (disch := omega) only [gd_T, e_con, e_glob, e_var, rd_val, rd_own, e_bin, bin1_s, bin2_s, e_neg, neg1_s, e_cmp, cmp1_s, cmp2_s, e_chn, chn1_s, chn2_s, chn3_s, e_isK, isK1_s, e_bools, b_last, b_more, bolC_s, bolD_s, e_not, not1_s, e_ite, ite1_s, ite2_s, es_nil, es_cons, es1_s, es2_s, e_tup, e_lst, tup1_s, lst1_s,
 e_sub, sub1_s, sub2_s, o_none, o_some, o1_s, e_sl, sl1_s, sl2_s, sl3_s, e_rev, rev1_s, e_call, call1_s, e_callP, callP1_s, e_bi, bi1_s, e_me, me1_s, me2_s, e_isi, isi1_s, w_rngE, rng1_s, w_exE, wlk1_s, prL_some, walk_lst, walk_tup, walk_str, e_lc, lc1_s, lc2_s, e_lcP, lcP1_s, e_lc2, lcD1_s, e_lrng, lrng1_s, lrng2_s, e_sset, sset1_s, sset2_s, wipeE_nil, wipeE_cons, t_ev, tst1_s, ss_nil, ss_cons, seq_nx, seq_rt, seq_bk, seq_ct, seq_ite,
 s_asgV, s_asgO, asgV_s, asgO_s, settle_t, settle_c, frz_nil, frz_val, frz_none, frz_pool, frz_own, n_non, n_bl, n_int, n_str, n_lst, n_tup, n_nil, n_cons, s_unp, unp1_s, s_parE, par1_s, setAll_nil, setAll_cons, s_aug, aug1_s, aug2_i, aug2_t, aug3_s, s_app, app1_s, app2_s, s_ret, ret1_s, ret1_ite, s_if, if1_s, s_for, s_forT, for1_s, turnF_s, turnT_s, s_brk, s_cnt, s_pass, frzW_rng, frzW_ex,
 d_ev, d_nx, d_rt, d_ite, and_pure, or_pure, tru_bl, tru_int, tru_non, tru_str, tru_lst, tru_tup, pr_some, pr_gd, prB_some, prT_some, iniE, lawE, List.getElem?_cons_zero, List.getElem?_cons_succ, List.getElem?_nil, List.set_cons_zero, List.set_cons_succ, List.set_nil, List.map_cons, List.map_nil, List.nil_append, List.cons_append, List.append_nil, List.length_cons, List.length_nil, Nat.zero_le, Nat.reduceLeDiff, Nat.reduceAdd, List.replicate, ite_true, ite_false, if_true, if_false, Bool.false_eq_true, reduceIte, reduceCtorEq, ite_self, Bool.true_and, Bool.and_true, Bool.not_true, Bool.not_false, Bool.not_not, Option.map_some, Option.map_none, Pu.sizeLine_eq, cmp_ge, cmp_gt, cmp_le, cmp_lt, eq_i, eq_s, eq_b, ne_i, ne_s, ne_b, in_c, nin_c, op_add_i, op_add_s, op_add_t, op_add_l, op_sub_i, op_mul_r, op_mul_l, op_div_i, op_mod_i, bi_int, bi_intb, len_s, len_l, len_t, bi_list_t, bi_list_l, bi_tuple_t, bi_tuple_l, bi_min2, bi_max2, rev_s, rev_l, rev_t, sub_l, sub_t, sub_s, sl_l, sl_t, sl_s, at0, at1, at2, at3, lct_no, lct_yes, lctP_nm, l2T_nm, l2t1_s, ix_nm, ix_tp, lct1_s, lct2_s, lct3_s, gd_pos, beqN, hh, decide_true]
        · have hh2 : ¬ ((r : Int) = (((rootsR p q n).getD b 0 : Nat) : Int)) := by omega
          cases o <;> simp (disch := omega) only [gd_T, e_con, e_glob, e_var, rd_val, rd_own, e_bin, bin1_s, bin2_s, e_neg, neg1_s, e_cmp, cmp1_s, cmp2_s, e_chn, chn1_s, chn2_s, chn3_s, e_isK, isK1_s, e_bools, b_last, b_more, bolC_s, bolD_s, e_not, not1_s, e_ite, ite1_s, ite2_s, es_nil, es_cons, es1_s, es2_s, e_tup, e_lst, tup1_s, lst1_s,
 e_sub, sub1_s, sub2_s, o_none, o_some, o1_s, e_sl, sl1_s, sl2_s, sl3_s, e_rev, rev1_s, e_call, call1_s, e_callP, callP1_s, e_bi, bi1_s, e_me, me1_s, me2_s, e_isi, isi1_s, w_rngE, rng1_s, w_exE, wlk1_s, prL_some, walk_lst, walk_tup, walk_str, e_lc, lc1_s, lc2_s, e_lcP, lcP1_s, e_lc2, lcD1_s, e_lrng, lrng1_s, lrng2_s, e_sset, sset1_s, sset2_s, wipeE_nil, wipeE_cons, t_ev, tst1_s, ss_nil, ss_cons, seq_nx, seq_rt, seq_bk, seq_ct, seq_ite,
 s_asgV, s_asgO, asgV_s, asgO_s, settle_t, settle_c, frz_nil, frz_val, frz_none, frz_pool, frz_own, n_non, n_bl, n_int, n_str, n_lst, n_tup, n_nil, n_cons, s_unp, unp1_s, s_parE, par1_s, setAll_nil, setAll_cons, s_aug, aug1_s, aug2_i, aug2_t, aug3_s, s_app, app1_s, app2_s, s_ret, ret1_s, ret1_ite, s_if, if1_s, s_for, s_forT, for1_s, turnF_s, turnT_s, s_brk, s_cnt, s_pass, frzW_rng, frzW_ex,
 d_ev, d_nx, d_rt, d_ite, and_pure, or_pure, tru_bl, tru_int, tru_non, tru_str, tru_lst, tru_tup, pr_some, pr_gd, prB_some, prT_some, iniE, lawE, List.getElem?_cons_zero, List.getElem?_cons_succ, List.getElem?_nil, List.set_cons_zero, List.set_cons_succ, List.set_nil, List.map_cons, List.map_nil, List.nil_append, List.cons_append, List.append_nil, List.length_cons, List.length_nil, Nat.zero_le, Nat.reduceLeDiff, Nat.reduceAdd, List.replicate, ite_true, ite_false, if_true, if_false, Bool.false_eq_true, reduceIte, reduceCtorEq, ite_self, Bool.true_and, Bool.and_true, Bool.not_true, Bool.not_false, Bool.not_not, Option.map_some, Option.map_none, Pu.sizeLine_eq, cmp_ge, cmp_gt, cmp_le, cmp_lt, eq_i, eq_s, eq_b, ne_i, ne_s, ne_b, in_c, nin_c, op_add_i, op_add_s, op_add_t, op_add_l, op_sub_i, op_mul_r, op_mul_l, op_div_i, op_mod_i, bi_int, bi_intb, len_s, len_l, len_t, bi_list_t, bi_list_l, bi_tuple_t, bi_tuple_l, bi_min2, bi_max2, rev_s, rev_l, rev_t, sub_l, sub_t, sub_s, sl_l, sl_t, sl_s, at0, at1, at2, at3, lct_no, lct_yes, lctP_nm, l2T_nm, l2t1_s, ix_nm, ix_tp, lct1_s, lct2_s, lct3_s, gd_pos, beqN, hh, decide_false, hh2])
      rw [e]
      have e3 : (natsD (rootsR p q n)).map (fun x => match x with | .int i => D.str [if i = ((rootsR p q n).getD b 0 : Nat) then 97 else 98] | _ => D.non) = (wrd (rootsR p q n) b).map fun c => D.str [c] := by
        unfold natsD wrd
        rw [List.map_map, List.map_map]
        apply List.map_congr_left
        intro r hr
        show D.str [if (r : Int) = (((rootsR p q n).getD b 0 : Nat) : Int) then 97 else 98] = D.str [if r = (rootsR p q n).getD b 0 then 97 else 98]
        by_cases hh : r = (rootsR p q n).getD b 0
        · rw [if_pos hh, if_pos (by omega)]
        · rw [if_neg hh, if_neg (by omega)]
      rw [e3]
    have hwl : ∀ b, (wrd (rootsR p q n) b).length ≤ 16777216 := fun b => by unfold wrd; rw [List.length_map, L2]; omega
    cases hb : badR (Nat.gcd p q) n (rootsR p q n) with
    | nil =>
      rw [hb] at elc
      have elc := elc s2 o2
      unfold envT at loop elc
      have en : natsD [] = [] := rfl
      rw [en] at elc
      rcases ss2 with rfl | ⟨d, rfl⟩ <;> rcases o2 with _ | ⟨x, y⟩ <;> simp +decide (disch := omega) only [gd_T, e_con, e_glob, e_var, rd_val, rd_own, e_bin, bin1_s, bin2_s, e_neg, neg1_s, e_cmp, cmp1_s, cmp2_s, e_chn, chn1_s, chn2_s, chn3_s, e_isK, isK1_s, e_bools, b_last, b_more, bolC_s, bolD_s, e_not, not1_s, e_ite, ite1_s, ite2_s, es_nil, es_cons, es1_s, es2_s, e_tup, e_lst, tup1_s, lst1_s,
 e_sub, sub1_s, sub2_s, o_none, o_some, o1_s, e_sl, sl1_s, sl2_s, sl3_s, e_rev, rev1_s, e_call, call1_s, e_callP, callP1_s, e_bi, bi1_s, e_me, me1_s, me2_s, e_isi, isi1_s, w_rngE, rng1_s, w_exE, wlk1_s, prL_some, walk_lst, walk_tup, walk_str, e_lc, lc1_s, lc2_s, e_lcP, lcP1_s, e_lc2, lcD1_s, e_lrng, lrng1_s, lrng2_s, e_sset, sset1_s, sset2_s, wipeE_nil, wipeE_cons, t_ev, tst1_s, ss_nil, ss_cons, seq_nx, seq_rt, seq_bk, seq_ct, seq_ite,
 s_asgV, s_asgO, asgV_s, asgO_s, settle_t, settle_c, frz_nil, frz_val, frz_none, frz_pool, frz_own, n_non, n_bl, n_int, n_str, n_lst, n_tup, n_nil, n_cons, s_unp, unp1_s, s_parE, par1_s, setAll_nil, setAll_cons, s_aug, aug1_s, aug2_i, aug2_t, aug3_s, s_app, app1_s, app2_s, s_ret, ret1_s, ret1_ite, s_if, if1_s, s_for, s_forT, for1_s, turnF_s, turnT_s, s_brk, s_cnt, s_pass, frzW_rng, frzW_ex,
 d_ev, d_nx, d_rt, d_ite, and_pure, or_pure, tru_bl, tru_int, tru_non, tru_str, tru_lst, tru_tup, pr_some, pr_gd, prB_some, prT_some, iniE, lawE, List.getElem?_cons_zero, List.getElem?_cons_succ, List.getElem?_nil, List.set_cons_zero, List.set_cons_succ, List.set_nil, List.map_cons, List.map_nil, List.nil_append, List.cons_append, List.append_nil, List.length_cons, List.length_nil, Nat.zero_le, Nat.reduceLeDiff, Nat.reduceAdd, List.replicate, ite_true, ite_false, if_true, if_false, Bool.false_eq_true, reduceIte, reduceCtorEq, ite_self, Bool.true_and, Bool.and_true, Bool.not_true, Bool.not_false, Bool.not_not, Option.map_some, Option.map_none, Pu.sizeLine_eq, cmp_ge, cmp_gt, cmp_le, cmp_lt, eq_i, eq_s, eq_b, ne_i, ne_s, ne_b, in_c, nin_c, op_add_i, op_add_s, op_add_t, op_add_l, op_sub_i, op_mul_r, op_mul_l, op_div_i, op_mod_i, bi_int, bi_intb, len_s, len_l, len_t, bi_list_t, bi_list_l, bi_tuple_t, bi_tuple_l, bi_min2, bi_max2, rev_s, rev_l, rev_t, sub_l, sub_t, sub_s, sl_l, sl_t, sl_s, at0, at1, at2, at3, lct_no, lct_yes, lctP_nm, l2T_nm, l2t1_s, ix_nm, ix_tp, lct1_s, lct2_s, lct3_s, gd_pos, common_ev (show q < 1000000 by omega), addN, subN, hd, e0, hln, loop, e1', elc, beqN0, decide_true]
      all_goals rfl
    | cons b t =>
      rw [hb] at elc
      have elc := elc s2 o2
      have hbm : b ∈ badR (Nat.gcd p q) n (rootsR p q n) := by rw [hb]; exact List.mem_cons_self
      have hbl : b < n := by
        unfold badR at hbm
        rw [List.mem_filter, List.mem_range'_1] at hbm
        omega
      have en : natsD (b :: t) = .int (b : Nat) :: natsD t := rfl
      have hbt : (natsD t).length + 1 ≤ 1000 := by
        have : (badR (Nat.gcd p q) n (rootsR p q n)).length ≤ n - Nat.gcd p q := by
          unfold badR
          exact Nat.le_trans (List.length_filter_le _ _) (by rw [List.length_range']; omega)
        rw [hb] at this
        simp only [List.length_cons] at this
        unfold natsD
        rw [List.length_map]
        omega
      have hne : ((((natsD t).length + 1 : Nat) : Int) == 0) = false := by rw [beqN0, decide_eq_false (by omega)]
      have a1 := nats_at (R := rootsR p q n) (k := b) (by omega)
      have ejn := ejn s2 o2 b (.lst (.int (b : Nat) :: natsD t))
      have hj := join_c (hwl b)
      unfold envT at loop elc ejn
      rw [en] at elc
      rcases ss2 with rfl | ⟨d, rfl⟩ <;> rcases o2 with _ | ⟨x, y⟩ <;> simp only [List.set_cons_succ, List.set_cons_zero] at ejn <;> simp (disch := omega) only [gd_T, e_con, e_glob, e_var, rd_val, rd_own, e_bin, bin1_s, bin2_s, e_neg, neg1_s, e_cmp, cmp1_s, cmp2_s, e_chn, chn1_s, chn2_s, chn3_s, e_isK, isK1_s, e_bools, b_last, b_more, bolC_s, bolD_s, e_not, not1_s, e_ite, ite1_s, ite2_s, es_nil, es_cons, es1_s, es2_s, e_tup, e_lst, tup1_s, lst1_s,
 e_sub, sub1_s, sub2_s, o_none, o_some, o1_s, e_sl, sl1_s, sl2_s, sl3_s, e_rev, rev1_s, e_call, call1_s, e_callP, callP1_s, e_bi, bi1_s, e_me, me1_s, me2_s, e_isi, isi1_s, w_rngE, rng1_s, w_exE, wlk1_s, prL_some, walk_lst, walk_tup, walk_str, e_lc, lc1_s, lc2_s, e_lcP, lcP1_s, e_lc2, lcD1_s, e_lrng, lrng1_s, lrng2_s, e_sset, sset1_s, sset2_s, wipeE_nil, wipeE_cons, t_ev, tst1_s, ss_nil, ss_cons, seq_nx, seq_rt, seq_bk, seq_ct, seq_ite,
 s_asgV, s_asgO, asgV_s, asgO_s, settle_t, settle_c, frz_nil, frz_val, frz_none, frz_pool, frz_own, n_non, n_bl, n_int, n_str, n_lst, n_tup, n_nil, n_cons, s_unp, unp1_s, s_parE, par1_s, setAll_nil, setAll_cons, s_aug, aug1_s, aug2_i, aug2_t, aug3_s, s_app, app1_s, app2_s, s_ret, ret1_s, ret1_ite, s_if, if1_s, s_for, s_forT, for1_s, turnF_s, turnT_s, s_brk, s_cnt, s_pass, frzW_rng, frzW_ex,
 d_ev, d_nx, d_rt, d_ite, and_pure, or_pure, tru_bl, tru_int, tru_non, tru_str, tru_lst, tru_tup, pr_some, pr_gd, prB_some, prT_some, iniE, lawE, List.getElem?_cons_zero, List.getElem?_cons_succ, List.getElem?_nil, List.set_cons_zero, List.set_cons_succ, List.set_nil, List.map_cons, List.map_nil, List.nil_append, List.cons_append, List.append_nil, List.length_cons, List.length_nil, Nat.zero_le, Nat.reduceLeDiff, Nat.reduceAdd, List.replicate, ite_true, ite_false, if_true, if_false, Bool.false_eq_true, reduceIte, reduceCtorEq, ite_self, Bool.true_and, Bool.and_true, Bool.not_true, Bool.not_false, Bool.not_not, Option.map_some, Option.map_none, Pu.sizeLine_eq, cmp_ge, cmp_gt, cmp_le, cmp_lt, eq_i, eq_s, eq_b, ne_i, ne_s, ne_b, in_c, nin_c, op_add_i, op_add_s, op_add_t, op_add_l, op_sub_i, op_mul_r, op_mul_l, op_div_i, op_mod_i, bi_int, bi_intb, len_s, len_l, len_t, bi_list_t, bi_list_l, bi_tuple_t, bi_tuple_l, bi_min2, bi_max2, rev_s, rev_l, rev_t, sub_l, sub_t, sub_s, sl_l, sl_t, sl_s, at0, at1, at2, at3, lct_no, lct_yes, lctP_nm, l2T_nm, l2t1_s, ix_nm, ix_tp, lct1_s, lct2_s, lct3_s, gd_pos, common_ev (show q < 1000000 by omega), addN, subN, hd, e0, hln, loop, e1', elc, hne, a1, ejn, List.length_map, hwl, hj]
      all_goals first | rfl | skip
end
end Q28
set_option Elab.async false
set_option linter.all false
set_option maxRecDepth 100000
set_option maxHeartbeats 2000000
namespace Q28
open PySem PySem.Spec PyProof.Rows L2 Pu Wd

section
variable {w one two mid : List Nat} {v : D} {pl : Pool}
theorem perL_prefix {p m : Nat} (h : PerL w p) : PerL (w.take m) p := fun i hi => by
  rw [List.length_take] at hi
  show (w.take m)[i]? = (w.take m)[i + p]?
  rw [List.getElem?_take_of_lt (by omega), List.getElem?_take_of_lt (by omega)]
  exact h i (by omega)
theorem rt_ne (h : w ≠ []) : rt w ≠ [] := ne_of_len (by rw [rt_len h]; exact (rd_spec h).pos)
theorem rd_rt (h : w ≠ []) : rd (rt w) = rd w := by
  have h1 := rt_ne h
  have S := rd_spec h
  have T := rd_spec h1
  have e : pw (w.length / rd w * ((rt w).length / rd (rt w))) (rt (rt w)) = w := by rw [← pw_pw, rt_pw h1, rt_pw h]
  have hp : PerL w (rd (rt w)) := by
    have := pw_per (u := rt (rt w)) (n := w.length / rd w * ((rt w).length / rd (rt w)))
    rw [e, rt_len h1] at this
    exact this
  have hd : rd (rt w) ∣ w.length := by
    have := T.dvd
    rw [rt_len h] at this
    exact Nat.dvd_trans this S.dvd
  have h2 := S.least _ T.pos hd hp
  have h3 := T.le
  rw [rt_len h] at h3
  omega
theorem prim_pw {r : List Nat} (hr : r ≠ []) (hp : rd r = r.length) {a : Nat} (ha : 0 < a) : rt (pw a r) = r := by
  have hrl : 0 < r.length := List.length_pos_iff.mpr hr
  have hl : (pw a r).length = a * r.length := pw_len
  have hw : pw a r ≠ [] := ne_of_len (by rw [hl]; exact Nat.mul_pos ha hrl)
  have S := rd_spec hw
  have T := rd_spec hr
  have hpr : PerL (pw a r) r.length := pw_per
  have hdr : r.length ∣ (pw a r).length := by rw [hl]; exact Nat.dvd_mul_left _ _
  have h1 := rd_dvd hw ((cyc_per hdr).mpr hpr)
  have hle := S.least _ hrl hdr hpr
  have ht : (pw a r).take r.length = r := by
    obtain ⟨b, rfl⟩ : ∃ b, a = b + 1 := ⟨a - 1, by omega⟩
    rw [pw_succ, List.take_left]
  have h2 : PerL r (rd (pw a r)) := by
    have := perL_prefix (m := r.length) S.per
    rw [ht] at this
    exact this
  have h3 := T.least _ S.pos h1 h2
  have : rd (pw a r) = r.length := by omega
  unfold rt
  rw [this, ht]
theorem comm_of_pw {z : List Nat} {a b : Nat} (h1 : pw a z = one) (h2 : pw b z = two) : one ++ two = two ++ one := by
  rw [← h1, ← h2, ← pw_add, ← pw_add, Nat.add_comm]
theorem rt_eq_iff (h1 : one ≠ []) (h2 : two ≠ []) : rt one = rt two ↔ one ++ two = two ++ one := by
  constructor
  · intro h
    refine comm_of_pw (rt_pw h1) ?_ (b := two.length / rd two)
    rw [h]
    exact rt_pw h2
  · intro h
    have hn : one ++ two ≠ [] := fun z => h1 (List.append_eq_nil_iff.mp z).1
    obtain ⟨c1, c2⟩ := comm_powers h hn
    have hr := rt_ne hn
    have hp : rd (rt (one ++ two)) = (rt (one ++ two)).length := by rw [rd_rt hn, rt_len hn]
    have pos : ∀ {x : List Nat} {a : Nat}, x ≠ [] → pw a (rt (one ++ two)) = x → 0 < a := fun {x a} hx e => by
      rcases Nat.eq_zero_or_pos a with z | z
      · subst z; exact absurd e.symm hx
      · exact z
    have e1 := prim_pw hr hp (pos h1 c1)
    have e2 := prim_pw hr hp (pos h2 c2)
    rw [c1] at e1
    rw [c2] at e2
    rw [e1, e2]
theorem take_pw {z : List Nat} {a b s : Nat} (ha : s ≤ a * z.length) (hb : s ≤ b * z.length) : (pw a z).take s = (pw b z).take s := by
  apply List.ext_getElem?
  intro i
  by_cases hi : i < s
  · rw [List.getElem?_take_of_lt hi, List.getElem?_take_of_lt hi, pw_get (by omega), pw_get (by omega)]
  · rw [List.getElem?_eq_none (by rw [List.length_take]; omega), List.getElem?_eq_none (by rw [List.length_take]; omega)]
theorem fw_comm (h1 : one ≠ []) (h2 : two ≠ []) {s : Nat} (hs : s = one.length + two.length - Nat.gcd one.length two.length) (ha : s ≤ 10 * one.length) (hb : s ≤ 10 * two.length) :
    (pw 10 one).take s = (pw 10 two).take s ↔ one ++ two = two ++ one := by
  have l1 : 0 < one.length := List.length_pos_iff.mpr h1
  have l2 : 0 < two.length := List.length_pos_iff.mpr h2
  have g1 := Nat.gcd_dvd_left one.length two.length
  have g2 := Nat.gcd_dvd_right one.length two.length
  have k1 := Nat.le_of_dvd l1 g1
  have k2 := Nat.le_of_dvd l2 g2
  constructor
  · intro h
    have p1 : PerL ((pw 10 one).take s) one.length := perL_prefix pw_per
    have p2 : PerL ((pw 10 one).take s) two.length := by rw [h]; exact perL_prefix pw_per
    have hl : ((pw 10 one).take s).length = s := by rw [List.length_take, pw_len]; omega
    have p3 : PerL ((pw 10 one).take s) (Nat.gcd one.length two.length) := fine_wilf l1 l2 p1 p2 (by rw [hl]; omega)
    have e1 : ((pw 10 one).take s).take one.length = one := by
      rw [List.take_take, Nat.min_eq_left (by omega), show (10 : Nat) = 9 + 1 from rfl, pw_succ, List.take_left]
    have e2 : ((pw 10 one).take s).take two.length = two := by
      rw [h, List.take_take, Nat.min_eq_left (by omega), show (10 : Nat) = 9 + 1 from rfl, pw_succ, List.take_left]
    have q1 : PerL one (Nat.gcd one.length two.length) := by
      have := perL_prefix (m := one.length) p3
      rw [e1] at this
      exact this
    have q2 : PerL two (Nat.gcd one.length two.length) := by
      have := perL_prefix (m := two.length) p3
      rw [e2] at this
      exact this
    have r1 := (pw_iff g1).mpr q1
    have r2 := (pw_iff g2).mpr q2
    have ez : one.take (Nat.gcd one.length two.length) = two.take (Nat.gcd one.length two.length) := by
      calc one.take (Nat.gcd one.length two.length) = (((pw 10 one).take s).take one.length).take (Nat.gcd one.length two.length) := by rw [e1]
        _ = ((pw 10 one).take s).take (Nat.gcd one.length two.length) := by rw [List.take_take, Nat.min_eq_left k1]
        _ = (((pw 10 one).take s).take two.length).take (Nat.gcd one.length two.length) := by rw [List.take_take (l := (pw 10 one).take s), Nat.min_eq_left k2]
        _ = two.take (Nat.gcd one.length two.length) := by rw [e2]
    rw [ez] at r1
    exact comm_of_pw r1 r2
  · intro h
    have hn : one ++ two ≠ [] := fun z => h1 (List.append_eq_nil_iff.mp z).1
    obtain ⟨c1, c2⟩ := comm_powers h hn
    generalize one.length / rd (one ++ two) = a at c1
    generalize two.length / rd (one ++ two) = b at c2
    have e1 : pw 10 one = pw (10 * a) (rt (one ++ two)) := by rw [← pw_pw, c1]
    have e2 : pw 10 two = pw (10 * b) (rt (one ++ two)) := by rw [← pw_pw, c2]
    have f1 : one.length = a * (rt (one ++ two)).length := by rw [← pw_len, c1]
    have f2 : two.length = b * (rt (one ++ two)).length := by rw [← pw_len, c2]
    rw [e1, e2]
    exact take_pw (by rw [Nat.mul_assoc, ← f1]; exact ha) (by rw [Nat.mul_assoc, ← f2]; exact hb)
theorem gcd_in {a b : Nat} (ha : a ∈ periodsW w) (hb : b ∈ periodsW w) (h : a + b - Nat.gcd a b ≤ w.length) : Nat.gcd a b ∈ periodsW w := by
  obtain ⟨a1, a2, a3⟩ := periodsW_mem.mp ha
  obtain ⟨b1, b2, b3⟩ := periodsW_mem.mp hb
  exact periodsW_mem.mpr ⟨Nat.gcd_pos_of_pos_left _ (by omega), Nat.le_trans (Nat.le_of_dvd (by omega) (Nat.gcd_dvd_left a b)) a2, fine_wilf (by omega) (by omega) a3 b3 h⟩
theorem mul_in {a k : Nat} (ha : a ∈ periodsW w) (hk : 0 < k) (hl : k * a ≤ w.length) : k * a ∈ periodsW w := by
  obtain ⟨a1, a2, a3⟩ := periodsW_mem.mp ha
  exact periodsW_mem.mpr ⟨Nat.mul_pos hk (by omega), hl, fun i hi => Per.mul a3 k i hi⟩
theorem nin_nats {a : Nat} {l : List Nat} : opCmp .NotIn (.int (a : Nat)) (.lst (natsD l)) = some (!decide (a ∈ l)) := by
  show (inL _ _).map _ = _
  unfold inL natsD
  rw [gd_pos (by
    have : (l.map fun k => D.int (k : Nat)).all flatD = true := by
      rw [List.all_eq_true]
      intro x hx
      obtain ⟨k, _, rfl⟩ := List.mem_map.mp hx
      rfl
    rw [this]
    rfl), List.any_map]
  show some (!_) = _
  congr 2
  rw [Bool.eq_iff_iff, List.any_eq_true, decide_eq_true_eq]
  constructor
  · rintro ⟨x, hx, h⟩
    have h : ((x : Int) == (a : Int)) = true := h
    rw [beqN, decide_eq_true_eq] at h
    exact h ▸ hx
  · intro h
    exact ⟨a, h, by show ((a : Int) == (a : Int)) = true; rw [beqN, decide_eq_true rfl]⟩

/-- the loops over the periods -/
theorem loop_b {a n11 : Nat} (ha : a ∈ periodsW w) (hw : w.length ≤ 60) (E0 : List Pu.Slot) (hE : E0.length = 14) (s17 : Pu.Slot) : ∃ s', forGo (turnF fuel 17 lb_law_0) (natsD (periodsW w)) (E0 ++ [.val (.str w), .val (.lst (natsD (periodsW w))), .val (.int (a : Nat)), s17, .none, .none]) pl = some (.nx, E0 ++ [.val (.str w), .val (.lst (natsD (periodsW w))), .val (.int (a : Nat)), s', .none, .none], pl) ∧ (s' = s17 ∨ ∃ x, s' = .val x) := by
  match E0, hE with
  | [x0, x1, x2, x3, x4, x5, x6, x7, x8, x9, x10, x11, x12, x13], _ =>
    refine for_ask (E := fun s => [x0, x1, x2, x3, x4, x5, x6, x7, x8, x9, x10, x11, x12, x13] ++ [.val (.str w), .val (.lst (natsD (periodsW w))), .val (.int (a : Nat)), s, .none, .none]) fun x hx s => ?_
    obtain ⟨b, hb, rfl⟩ := List.mem_map.mp hx
    obtain ⟨a1, a2, a3⟩ := periodsW_mem.mp ha
    obtain ⟨b1, b2, b3⟩ := periodsW_mem.mp hb
    have hg : Nat.gcd a b ≤ a := Nat.le_of_dvd (by omega) (Nat.gcd_dvd_left a b)
    unfold lb_law_0
    by_cases hl : a + b - Nat.gcd a b ≤ w.length
    · have hd : (!decide ((w.length : Int) < ((a + b - Nat.gcd a b : Nat) : Int))) = true := by rw [decide_eq_false (by omega)]; rfl
      have hi := gcd_in ha hb hl
      simp (disch := omega) only [gd_T, e_con, e_glob, e_var, rd_val, rd_own, e_bin, bin1_s, bin2_s, e_neg, neg1_s, e_cmp, cmp1_s, cmp2_s, e_chn, chn1_s, chn2_s, chn3_s, e_isK, isK1_s, e_bools, b_last, b_more, bolC_s, bolD_s, e_not, not1_s, e_ite, ite1_s, ite2_s, es_nil, es_cons, es1_s, es2_s, e_tup, e_lst, tup1_s, lst1_s,
 e_sub, sub1_s, sub2_s, o_none, o_some, o1_s, e_sl, sl1_s, sl2_s, sl3_s, e_rev, rev1_s, e_call, call1_s, e_callP, callP1_s, e_bi, bi1_s, e_me, me1_s, me2_s, e_isi, isi1_s, w_rngE, rng1_s, w_exE, wlk1_s, prL_some, walk_lst, walk_tup, walk_str, e_lc, lc1_s, lc2_s, e_lcP, lcP1_s, e_lc2, lcD1_s, e_lrng, lrng1_s, lrng2_s, e_sset, sset1_s, sset2_s, wipeE_nil, wipeE_cons, t_ev, tst1_s, ss_nil, ss_cons, seq_nx, seq_rt, seq_bk, seq_ct, seq_ite,
 s_asgV, s_asgO, asgV_s, asgO_s, settle_t, settle_c, frz_nil, frz_val, frz_none, frz_pool, frz_own, n_non, n_bl, n_int, n_str, n_lst, n_tup, n_nil, n_cons, s_unp, unp1_s, s_parE, par1_s, setAll_nil, setAll_cons, s_aug, aug1_s, aug2_i, aug2_t, aug3_s, s_app, app1_s, app2_s, s_ret, ret1_s, ret1_ite, s_if, if1_s, s_for, s_forT, for1_s, turnF_s, turnT_s, s_brk, s_cnt, s_pass, frzW_rng, frzW_ex,
 d_ev, d_nx, d_rt, d_ite, and_pure, or_pure, tru_bl, tru_int, tru_non, tru_str, tru_lst, tru_tup, pr_some, pr_gd, prB_some, prT_some, iniE, lawE, List.getElem?_cons_zero, List.getElem?_cons_succ, List.getElem?_nil, List.set_cons_zero, List.set_cons_succ, List.set_nil, List.map_cons, List.map_nil, List.nil_append, List.cons_append, List.append_nil, List.length_cons, List.length_nil, Nat.zero_le, Nat.reduceLeDiff, Nat.reduceAdd, List.replicate, ite_true, ite_false, if_true, if_false, Bool.false_eq_true, reduceIte, reduceCtorEq, ite_self, Bool.true_and, Bool.and_true, Bool.not_true, Bool.not_false, Bool.not_not, Option.map_some, Option.map_none, Pu.sizeLine_eq, cmp_ge, cmp_gt, cmp_le, cmp_lt, eq_i, eq_s, eq_b, ne_i, ne_s, ne_b, in_c, nin_c, op_add_i, op_add_s, op_add_t, op_add_l, op_sub_i, op_mul_r, op_mul_l, op_div_i, op_mod_i, bi_int, bi_intb, len_s, len_l, len_t, bi_list_t, bi_list_l, bi_tuple_t, bi_tuple_l, bi_min2, bi_max2, rev_s, rev_l, rev_t, sub_l, sub_t, sub_s, sl_l, sl_t, sl_s, at0, at1, at2, at3, lct_no, lct_yes, lctP_nm, l2T_nm, l2t1_s, ix_nm, ix_tp, lct1_s, lct2_s, lct3_s, gd_pos, common_ev (show b < 1000000 by omega), addN, subN, hd, nin_nats, hi, decide_true]
    · have hd : (!decide ((w.length : Int) < ((a + b - Nat.gcd a b : Nat) : Int))) = false := by rw [decide_eq_true (by omega)]; rfl
      simp (disch := omega) only [gd_T, e_con, e_glob, e_var, rd_val, rd_own, e_bin, bin1_s, bin2_s, e_neg, neg1_s, e_cmp, cmp1_s, cmp2_s, e_chn, chn1_s, chn2_s, chn3_s, e_isK, isK1_s, e_bools, b_last, b_more, bolC_s, bolD_s, e_not, not1_s, e_ite, ite1_s, ite2_s, es_nil, es_cons, es1_s, es2_s, e_tup, e_lst, tup1_s, lst1_s,
 e_sub, sub1_s, sub2_s, o_none, o_some, o1_s, e_sl, sl1_s, sl2_s, sl3_s, e_rev, rev1_s, e_call, call1_s, e_callP, callP1_s, e_bi, bi1_s, e_me, me1_s, me2_s, e_isi, isi1_s, w_rngE, rng1_s, w_exE, wlk1_s, prL_some, walk_lst, walk_tup, walk_str, e_lc, lc1_s, lc2_s, e_lcP, lcP1_s, e_lc2, lcD1_s, e_lrng, lrng1_s, lrng2_s, e_sset, sset1_s, sset2_s, wipeE_nil, wipeE_cons, t_ev, tst1_s, ss_nil, ss_cons, seq_nx, seq_rt, seq_bk, seq_ct, seq_ite,
 s_asgV, s_asgO, asgV_s, asgO_s, settle_t, settle_c, frz_nil, frz_val, frz_none, frz_pool, frz_own, n_non, n_bl, n_int, n_str, n_lst, n_tup, n_nil, n_cons, s_unp, unp1_s, s_parE, par1_s, setAll_nil, setAll_cons, s_aug, aug1_s, aug2_i, aug2_t, aug3_s, s_app, app1_s, app2_s, s_ret, ret1_s, ret1_ite, s_if, if1_s, s_for, s_forT, for1_s, turnF_s, turnT_s, s_brk, s_cnt, s_pass, frzW_rng, frzW_ex,
 d_ev, d_nx, d_rt, d_ite, and_pure, or_pure, tru_bl, tru_int, tru_non, tru_str, tru_lst, tru_tup, pr_some, pr_gd, prB_some, prT_some, iniE, lawE, List.getElem?_cons_zero, List.getElem?_cons_succ, List.getElem?_nil, List.set_cons_zero, List.set_cons_succ, List.set_nil, List.map_cons, List.map_nil, List.nil_append, List.cons_append, List.append_nil, List.length_cons, List.length_nil, Nat.zero_le, Nat.reduceLeDiff, Nat.reduceAdd, List.replicate, ite_true, ite_false, if_true, if_false, Bool.false_eq_true, reduceIte, reduceCtorEq, ite_self, Bool.true_and, Bool.and_true, Bool.not_true, Bool.not_false, Bool.not_not, Option.map_some, Option.map_none, Pu.sizeLine_eq, cmp_ge, cmp_gt, cmp_le, cmp_lt, eq_i, eq_s, eq_b, ne_i, ne_s, ne_b, in_c, nin_c, op_add_i, op_add_s, op_add_t, op_add_l, op_sub_i, op_mul_r, op_mul_l, op_div_i, op_mod_i, bi_int, bi_intb, len_s, len_l, len_t, bi_list_t, bi_list_l, bi_tuple_t, bi_tuple_l, bi_min2, bi_max2, rev_s, rev_l, rev_t, sub_l, sub_t, sub_s, sl_l, sl_t, sl_s, at0, at1, at2, at3, lct_no, lct_yes, lctP_nm, l2T_nm, l2t1_s, ix_nm, ix_tp, lct1_s, lct2_s, lct3_s, gd_pos, common_ev (show b < 1000000 by omega), addN, subN, hd]
theorem loop_a {x2 x3 x5 x6 x7 x8 x9 x10 x11 x12 x13 : D} {s4 s16 s17 : Pu.Slot} (h4 : slO s4) (h16 : slO s16) (h17 : slO s17) (hw : w.length ≤ 60) :
    ∃ s16' s17', slO s16' ∧ slO s17' ∧ forGo (turnF fuel 16 lb_law_1) (natsD (periodsW w)) [.none, .pool, .val x2, .val x3, s4, .val x5, .val x6, .val x7, .val x8, .val x9, .val x10, .val x11, .val x12, .val x13, .val (.str w), .val (.lst (natsD (periodsW w))), s16, s17, .none, .none] pl = some (.nx, [.none, .pool, .val x2, .val x3, s4, .val x5, .val x6, .val x7, .val x8, .val x9, .val x10, .val x11, .val x12, .val x13, .val (.str w), .val (.lst (natsD (periodsW w))), s16', s17', .none, .none], pl) := by
  obtain ⟨env', pl', e, s16', s17', k16, k17, rfl, rfl⟩ := for_inv (turn := turnF fuel 16 lb_law_1) (ds := natsD (periodsW w)) (pl := pl) (env := [.none, .pool, .val x2, .val x3, s4, .val x5, .val x6, .val x7, .val x8, .val x9, .val x10, .val x11, .val x12, .val x13, .val (.str w), .val (.lst (natsD (periodsW w))), s16, s17, .none, .none])
    (Q := fun i env pl' => ∃ a b, slO a ∧ slO b ∧ env = [.none, .pool, .val x2, .val x3, s4, .val x5, .val x6, .val x7, .val x8, .val x9, .val x10, .val x11, .val x12, .val x13, .val (.str w), .val (.lst (natsD (periodsW w))), a, b, .none, .none] ∧ pl' = pl) ⟨s16, s17, h16, h17, rfl, rfl⟩ (fun i hi env pl' hq => by
      obtain ⟨s16, s17, h16, h17, rfl, rfl⟩ := hq
      have hm : (natsD (periodsW w))[i] ∈ natsD (periodsW w) := List.getElem_mem hi
      obtain ⟨a, ha, hae⟩ := List.mem_map.mp hm
      rw [← hae]
      obtain ⟨a1, a2, a3⟩ := periodsW_mem.mp ha
      obtain ⟨s17', lb, k17⟩ := loop_b (pl := pl') (n11 := 0) ha hw [.none, .pool, .val x2, .val x3, s4, .val x5, .val x6, .val x7, .val x8, .val x9, .val x10, .val x11, .val x12, .val x13] rfl s17
      have k17 := slO_of h17 k17
      have er : rngL [.int (a : Nat), .int ((w.length + 1 : Nat) : Int), .int (a : Nat)] = some ((List.range (Builtin.Range.rangeSize (a : Nat) ((w.length + 1 : Nat) : Int) (a : Nat)).toNat).map fun (k : Nat) => .int ((a : Int) + (k : Nat) * (a : Int))) := by
        show gd _ _ = _
        rw [gd_pos ⟨by omega, by omega, by omega, by omega, by omega, by omega⟩]
      have el := lc_pure (turn := lcTurn 18 (.yes (.cmp .NotIn (.var 18) (.var 15))) (.var 18) [.none, .pool, .val x2, .val x3, s4, .val x5, .val x6, .val x7, .val x8, .val x9, .val x10, .val x11, .val x12, .val x13, .val (.str w), .val (.lst (natsD (periodsW w))), .val (.int (a : Nat)), s17', .none, .none]) (pl := pl') (ds := (List.range (Builtin.Range.rangeSize (a : Nat) ((w.length + 1 : Nat) : Int) (a : Nat)).toNat).map fun (k : Nat) => .int ((a : Int) + (k : Nat) * (a : Int))) (g := fun _ => none) (fun x hx => by
        obtain ⟨k, hk, rfl⟩ := List.mem_map.mp hx
        rw [List.mem_range] at hk
        have hka : (k + 1) * a ≤ w.length := by
          unfold Builtin.Range.rangeSize at hk
          rw [if_pos (by omega), if_pos (by omega)] at hk
          have e : ((w.length + 1 : Nat) : Int) - (a : Int) - 1 = ((w.length - a : Nat) : Int) := by omega
          rw [e, divN] at hk
          have h1 : k ≤ (w.length - a) / a := by omega
          have h2 := Nat.mul_le_of_le_div a k (w.length - a) h1
          rw [Nat.succ_mul]
          omega
        have hi := mul_in ha (Nat.succ_pos k) hka
        have e : (a : Int) + (k : Nat) * (a : Int) = (((k + 1) * a : Nat) : Int) := by
          rw [Nat.succ_mul, Int.natCast_add, Int.natCast_mul]
          omega
        rw [e]
        simp (disch := omega) only [gd_T, e_con, e_glob, e_var, rd_val, rd_own, e_bin, bin1_s, bin2_s, e_neg, neg1_s, e_cmp, cmp1_s, cmp2_s, e_chn, chn1_s, chn2_s, chn3_s, e_isK, isK1_s, e_bools, b_last, b_more, bolC_s, bolD_s, e_not, not1_s, e_ite, ite1_s, ite2_s, es_nil, es_cons, es1_s, es2_s, e_tup, e_lst, tup1_s, lst1_s,
 e_sub, sub1_s, sub2_s, o_none, o_some, o1_s, e_sl, sl1_s, sl2_s, sl3_s, e_rev, rev1_s, e_call, call1_s, e_callP, callP1_s, e_bi, bi1_s, e_me, me1_s, me2_s, e_isi, isi1_s, w_rngE, rng1_s, w_exE, wlk1_s, prL_some, walk_lst, walk_tup, walk_str, e_lc, lc1_s, lc2_s, e_lcP, lcP1_s, e_lc2, lcD1_s, e_lrng, lrng1_s, lrng2_s, e_sset, sset1_s, sset2_s, wipeE_nil, wipeE_cons, t_ev, tst1_s, ss_nil, ss_cons, seq_nx, seq_rt, seq_bk, seq_ct, seq_ite,
 s_asgV, s_asgO, asgV_s, asgO_s, settle_t, settle_c, frz_nil, frz_val, frz_none, frz_pool, frz_own, n_non, n_bl, n_int, n_str, n_lst, n_tup, n_nil, n_cons, s_unp, unp1_s, s_parE, par1_s, setAll_nil, setAll_cons, s_aug, aug1_s, aug2_i, aug2_t, aug3_s, s_app, app1_s, app2_s, s_ret, ret1_s, ret1_ite, s_if, if1_s, s_for, s_forT, for1_s, turnF_s, turnT_s, s_brk, s_cnt, s_pass, frzW_rng, frzW_ex,
 d_ev, d_nx, d_rt, d_ite, and_pure, or_pure, tru_bl, tru_int, tru_non, tru_str, tru_lst, tru_tup, pr_some, pr_gd, prB_some, prT_some, iniE, lawE, List.getElem?_cons_zero, List.getElem?_cons_succ, List.getElem?_nil, List.set_cons_zero, List.set_cons_succ, List.set_nil, List.map_cons, List.map_nil, List.nil_append, List.cons_append, List.append_nil, List.length_cons, List.length_nil, Nat.zero_le, Nat.reduceLeDiff, Nat.reduceAdd, List.replicate, ite_true, ite_false, if_true, if_false, Bool.false_eq_true, reduceIte, reduceCtorEq, ite_self, Bool.true_and, Bool.and_true, Bool.not_true, Bool.not_false, Bool.not_not, Option.map_some, Option.map_none, Pu.sizeLine_eq, cmp_ge, cmp_gt, cmp_le, cmp_lt, eq_i, eq_s, eq_b, ne_i, ne_s, ne_b, in_c, nin_c, op_add_i, op_add_s, op_add_t, op_add_l, op_sub_i, op_mul_r, op_mul_l, op_div_i, op_mod_i, bi_int, bi_intb, len_s, len_l, len_t, bi_list_t, bi_list_l, bi_tuple_t, bi_tuple_l, bi_min2, bi_max2, rev_s, rev_l, rev_t, sub_l, sub_t, sub_s, sl_l, sl_t, sl_s, at0, at1, at2, at3, lct_no, lct_yes, lctP_nm, l2T_nm, l2t1_s, ix_nm, ix_tp, lct1_s, lct2_s, lct3_s, gd_pos, nin_nats, hi, decide_true])
      have ef : ∀ l : List D, l.filterMap (fun _ => (none : Option D)) = [] := fun l => by
        induction l with
        | nil => rfl
        | cons x l ih => rw [List.filterMap_cons, ih]
      rw [ef] at el
      have lb : forGo (turnF fuel 17 lb_law_0) (natsD (periodsW w)) [.none, .pool, .val x2, .val x3, s4, .val x5, .val x6, .val x7, .val x8, .val x9, .val x10, .val x11, .val x12, .val x13, .val (.str w), .val (.lst (natsD (periodsW w))), .val (.int (a : Nat)), s17, .none, .none] pl' = some (.nx, [.none, .pool, .val x2, .val x3, s4, .val x5, .val x6, .val x7, .val x8, .val x9, .val x10, .val x11, .val x12, .val x13, .val (.str w), .val (.lst (natsD (periodsW w))), .val (.int (a : Nat)), s17', .none, .none], pl') := lb
      refine ⟨_, pl', .inl ?_, .val (.int (a : Nat)), s17', slO_v, k17, rfl, rfl⟩
      unfold lb_law_1
      simp +decide (disch := omega) only [gd_T, e_con, e_glob, e_var, rd_val, rd_own, e_bin, bin1_s, bin2_s, e_neg, neg1_s, e_cmp, cmp1_s, cmp2_s, e_chn, chn1_s, chn2_s, chn3_s, e_isK, isK1_s, e_bools, b_last, b_more, bolC_s, bolD_s, e_not, not1_s, e_ite, ite1_s, ite2_s, es_nil, es_cons, es1_s, es2_s, e_tup, e_lst, tup1_s, lst1_s,
 e_sub, sub1_s, sub2_s, o_none, o_some, o1_s, e_sl, sl1_s, sl2_s, sl3_s, e_rev, rev1_s, e_call, call1_s, e_callP, callP1_s, e_bi, bi1_s, e_me, me1_s, me2_s, e_isi, isi1_s, w_rngE, rng1_s, w_exE, wlk1_s, prL_some, walk_lst, walk_tup, walk_str, e_lc, lc1_s, lc2_s, e_lcP, lcP1_s, e_lc2, lcD1_s, e_lrng, lrng1_s, lrng2_s, e_sset, sset1_s, sset2_s, wipeE_nil, wipeE_cons, t_ev, tst1_s, ss_nil, ss_cons, seq_nx, seq_rt, seq_bk, seq_ct, seq_ite,
 s_asgV, s_asgO, asgV_s, asgO_s, settle_t, settle_c, frz_nil, frz_val, frz_none, frz_pool, frz_own, n_non, n_bl, n_int, n_str, n_lst, n_tup, n_nil, n_cons, s_unp, unp1_s, s_parE, par1_s, setAll_nil, setAll_cons, s_aug, aug1_s, aug2_i, aug2_t, aug3_s, s_app, app1_s, app2_s, s_ret, ret1_s, ret1_ite, s_if, if1_s, s_for, s_forT, for1_s, turnF_s, turnT_s, s_brk, s_cnt, s_pass, frzW_rng, frzW_ex,
 d_ev, d_nx, d_rt, d_ite, and_pure, or_pure, tru_bl, tru_int, tru_non, tru_str, tru_lst, tru_tup, pr_some, pr_gd, prB_some, prT_some, iniE, lawE, List.getElem?_cons_zero, List.getElem?_cons_succ, List.getElem?_nil, List.set_cons_zero, List.set_cons_succ, List.set_nil, List.map_cons, List.map_nil, List.nil_append, List.cons_append, List.append_nil, List.length_cons, List.length_nil, Nat.zero_le, Nat.reduceLeDiff, Nat.reduceAdd, List.replicate, ite_true, ite_false, if_true, if_false, Bool.false_eq_true, reduceIte, reduceCtorEq, ite_self, Bool.true_and, Bool.and_true, Bool.not_true, Bool.not_false, Bool.not_not, Option.map_some, Option.map_none, Pu.sizeLine_eq, cmp_ge, cmp_gt, cmp_le, cmp_lt, eq_i, eq_s, eq_b, ne_i, ne_s, ne_b, in_c, nin_c, op_add_i, op_add_s, op_add_t, op_add_l, op_sub_i, op_mul_r, op_mul_l, op_div_i, op_mod_i, bi_int, bi_intb, len_s, len_l, len_t, bi_list_t, bi_list_l, bi_tuple_t, bi_tuple_l, bi_min2, bi_max2, rev_s, rev_l, rev_t, sub_l, sub_t, sub_s, sl_l, sl_t, sl_s, at0, at1, at2, at3, lct_no, lct_yes, lctP_nm, l2T_nm, l2t1_s, ix_nm, ix_tp, lct1_s, lct2_s, lct3_s, gd_pos, frz_slO h4, frz_slO h17, lb, addN1, er, el, decide_false])
  exact ⟨s16', s17', k16, k17, e⟩
theorem per_split {p : Nat} (hp : p ≤ w.length) (h : PerL w p) : w.take p ++ w.take (w.length - p) = w ∧ w.take (w.length - p) ++ w.drop (w.length - p) = w :=
  ⟨by rw [(per_drop hp).mp h, List.take_append_drop], List.take_append_drop _ _⟩
theorem eq_parts {z : List Nat} : (z == [112, 97, 114, 116, 115]) = decide (z = sParts) := by rw [beqL]; rfl
/-- behind the papers of two periods -/
theorem stage11 {x5 x6 x7 x8 x9 x10 x11 x12 x13 : D} {s4 s14 : Pu.Slot} (h4 : slO s4) (h14 : slO s14) (h1 : wdW one) (h2 : wdW two) (n1 : one ≠ []) {m : Nat} (g : GP m pl) (hm : m < 1000000) :
    ∃ env' pl', evSs fuel t_law_11 [.none, .pool, .val (.str one), .val (.str two), s4, .val x5, .val x6, .val x7, .val x8, .val x9, .val x10, .val x11, .val x12, .val x13, s14, .none, .none, .none, .none, .none] pl = some (.rt (.bl true), env', pl') := by
  have l1 := h1.1
  have l2 := h2.1
  obtain ⟨w, p1, w0, w1, w2, g1, e1⟩ := drawn_ok (lo := 0) (mo := 12) (sz := 2) g (by omega) (by decide) (by decide) (by decide) (by decide) (by decide)
  have hw := wdW_drawn (w := w) (by omega) (by decide) w2
  have lw := hw.1
  obtain ⟨s16, s17, h16, h17, la⟩ := loop_a (pl := p1) (w := w) (x2 := .str one) (x3 := .str two) (x5 := x5) (x6 := x6) (x7 := x7) (x8 := x8) (x9 := x9) (x10 := x10) (x11 := x11) (x12 := x12) (x13 := x13) h4 slO_n slO_n lw
  have hs1 : one.length + w.length ≤ 16777216 := by omega
  have hs2 : w.length + two.length ≤ 16777216 := by omega
  -- the paper between the two words
  obtain ⟨z, r, ep, hz, hzf⟩ : ∃ z r, F_between_paper [.str one, .str two, .str w] p1 = some (.tup (.str z :: r), p1) ∧ decide (z = sParts) = decide (one ++ w = w ++ two) ∧ z ≠ [102, 114, 101, 101] := by
    by_cases hq : one ++ w = w ++ two
    · exact ⟨_, _, between_parts n1 l1 l2 lw hq, by rw [decide_eq_true hq]; exact decide_eq_true rfl, by decide⟩
    · obtain ⟨z, r, e, hz⟩ := between_other (pl := p1) n1 l1 l2 lw hq
      refine ⟨z, r, e, ?_, ?_⟩
      · rw [decide_eq_false hq]
        rcases hz with rfl | rfl <;> decide
      · rcases hz with rfl | rfl <;> decide
  have hfree : (z == [102, 114, 101, 101]) = false := by rw [beqL, decide_eq_false hzf]
  unfold t_law_11 t_law_12 t_law_13 t_law_14 t_law_15 t_law_16
  by_cases hw0 : w = []
  · subst hw0
    have hn : periodsW [] = [] := rfl
    rw [hn] at la
    have hz' : decide (z = sParts) = decide (one = two) := by rw [hz]; simp
    have pe := period_ev (w := []) (pl := p1) (by decide)
    have pn : (periodW [] : Nat) = 0 := rfl
    rw [pn] at pe
    have la : forGo (turnF fuel 16 lb_law_1) [] _ p1 = _ := la
    have ev := periods_ev (w := []) (pl := p1) (by decide)
    rw [hn] at ev
    have ev : F_periods [.str []] p1 = some (.lst [], p1) := ev
    have la2 : natsD [] = [] := rfl
    rw [la2] at la
    have e0 : ((0 : Int) == 0) = true := rfl
    have e00 : (((0 : Nat) : Int) == 0) = true := rfl
    have en : (([] : List Nat) == []) = true := rfl
    have hq3 : (one == two) = decide (one = two) := beqL
    simp (disch := omega) only [gd_T, e_con, e_glob, e_var, rd_val, rd_own, e_bin, bin1_s, bin2_s, e_neg, neg1_s, e_cmp, cmp1_s, cmp2_s, e_chn, chn1_s, chn2_s, chn3_s, e_isK, isK1_s, e_bools, b_last, b_more, bolC_s, bolD_s, e_not, not1_s, e_ite, ite1_s, ite2_s, es_nil, es_cons, es1_s, es2_s, e_tup, e_lst, tup1_s, lst1_s,
 e_sub, sub1_s, sub2_s, o_none, o_some, o1_s, e_sl, sl1_s, sl2_s, sl3_s, e_rev, rev1_s, e_call, call1_s, e_callP, callP1_s, e_bi, bi1_s, e_me, me1_s, me2_s, e_isi, isi1_s, w_rngE, rng1_s, w_exE, wlk1_s, prL_some, walk_lst, walk_tup, walk_str, e_lc, lc1_s, lc2_s, e_lcP, lcP1_s, e_lc2, lcD1_s, e_lrng, lrng1_s, lrng2_s, e_sset, sset1_s, sset2_s, wipeE_nil, wipeE_cons, t_ev, tst1_s, ss_nil, ss_cons, seq_nx, seq_rt, seq_bk, seq_ct, seq_ite,
 s_asgV, s_asgO, asgV_s, asgO_s, settle_t, settle_c, frz_nil, frz_val, frz_none, frz_pool, frz_own, n_non, n_bl, n_int, n_str, n_lst, n_tup, n_nil, n_cons, s_unp, unp1_s, s_parE, par1_s, setAll_nil, setAll_cons, s_aug, aug1_s, aug2_i, aug2_t, aug3_s, s_app, app1_s, app2_s, s_ret, ret1_s, ret1_ite, s_if, if1_s, s_for, s_forT, for1_s, turnF_s, turnT_s, s_brk, s_cnt, s_pass, frzW_rng, frzW_ex,
 d_ev, d_nx, d_rt, d_ite, and_pure, or_pure, tru_bl, tru_int, tru_non, tru_str, tru_lst, tru_tup, pr_some, pr_gd, prB_some, prT_some, iniE, lawE, List.getElem?_cons_zero, List.getElem?_cons_succ, List.getElem?_nil, List.set_cons_zero, List.set_cons_succ, List.set_nil, List.map_cons, List.map_nil, List.nil_append, List.cons_append, List.append_nil, List.length_cons, List.length_nil, Nat.zero_le, Nat.reduceLeDiff, Nat.reduceAdd, List.replicate, ite_true, ite_false, if_true, if_false, Bool.false_eq_true, reduceIte, reduceCtorEq, ite_self, Bool.true_and, Bool.and_true, Bool.not_true, Bool.not_false, Bool.not_not, Option.map_some, Option.map_none, Pu.sizeLine_eq, cmp_ge, cmp_gt, cmp_le, cmp_lt, eq_i, eq_s, eq_b, ne_i, ne_s, ne_b, in_c, nin_c, op_add_i, op_add_s, op_add_t, op_add_l, op_sub_i, op_mul_r, op_mul_l, op_div_i, op_mod_i, bi_int, bi_intb, len_s, len_l, len_t, bi_list_t, bi_list_l, bi_tuple_t, bi_tuple_l, bi_min2, bi_max2, rev_s, rev_l, rev_t, sub_l, sub_t, sub_s, sl_l, sl_t, sl_s, at0, at1, at2, at3, lct_no, lct_yes, lctP_nm, l2T_nm, l2t1_s, ix_nm, ix_tp, lct1_s, lct2_s, lct3_s, gd_pos, e1, frz_slO h4, frz_slO h14, frz_slO h16, frz_slO h17, ev, la, ep, eq_parts, hz', hq3, ne_b, beq_self_eq_true, pe, e0, e00, en, hfree, hs1, hs2]
    exact ⟨_, _, rfl⟩
  · have P := period_spec hw0
    have pp := P.pos
    have pl1 := P.le
    obtain ⟨sp1, sp2⟩ := per_split P.le P.per
    have hwl : 0 < w.length := List.length_pos_iff.mpr hw0
    have hwe : (w == []) = false := by rw [beqL, decide_eq_false hw0]
    have mx : ∀ n : Nat, (if (n : Int) > 0 then (n : Int) else 0) = (n : Int) := fun n => by split <;> omega
    have hz2 : decide (z = [112, 97, 114, 116, 115]) = decide (one ++ w = w ++ two) := hz
    have tk : w.take (periodW w) ≠ [] := ne_of_len (by rw [List.length_take]; omega)
    have b1 := wdW_take (k := periodW w) hw
    have b2 := wdW_drop (k := w.length - periodW w) hw
    have b3 := wdW_take (k := w.length - periodW w) hw
    have hq2 : w.take (periodW w) ++ w.take (w.length - periodW w) = w.take (w.length - periodW w) ++ w.drop (w.length - periodW w) := by rw [sp1, sp2]
    have bp := between_parts (pl := p1) tk b1.1 b2.1 b3.1 hq2
    have cp := check_parts (pl := p1) tk b1 b2 b3.1 hq2
    have hse : (w.take (periodW w) == w.take (periodW w)) = true := by rw [beqL, decide_eq_true rfl]
    have hpp : (sParts == [112, 97, 114, 116, 115]) = true := by decide
    generalize (w.take (w.length - periodW w)).length % (w.take (periodW w)).length = k at bp cp
    generalize (w.take (w.length - periodW w)).length / (w.take (periodW w)).length = j at bp cp
    have hs3 : ((w.take (periodW w)).take k).length + ((w.take (periodW w)).drop k).length ≤ 16777216 := by
      rw [← List.length_append, List.take_append_drop]
      have := b1.1
      omega
    unfold t_law_17 t_law_18 t_law_19 t_law_20
    simp (disch := omega) only [gd_T, e_con, e_glob, e_var, rd_val, rd_own, e_bin, bin1_s, bin2_s, e_neg, neg1_s, e_cmp, cmp1_s, cmp2_s, e_chn, chn1_s, chn2_s, chn3_s, e_isK, isK1_s, e_bools, b_last, b_more, bolC_s, bolD_s, e_not, not1_s, e_ite, ite1_s, ite2_s, es_nil, es_cons, es1_s, es2_s, e_tup, e_lst, tup1_s, lst1_s,
 e_sub, sub1_s, sub2_s, o_none, o_some, o1_s, e_sl, sl1_s, sl2_s, sl3_s, e_rev, rev1_s, e_call, call1_s, e_callP, callP1_s, e_bi, bi1_s, e_me, me1_s, me2_s, e_isi, isi1_s, w_rngE, rng1_s, w_exE, wlk1_s, prL_some, walk_lst, walk_tup, walk_str, e_lc, lc1_s, lc2_s, e_lcP, lcP1_s, e_lc2, lcD1_s, e_lrng, lrng1_s, lrng2_s, e_sset, sset1_s, sset2_s, wipeE_nil, wipeE_cons, t_ev, tst1_s, ss_nil, ss_cons, seq_nx, seq_rt, seq_bk, seq_ct, seq_ite,
 s_asgV, s_asgO, asgV_s, asgO_s, settle_t, settle_c, frz_nil, frz_val, frz_none, frz_pool, frz_own, n_non, n_bl, n_int, n_str, n_lst, n_tup, n_nil, n_cons, s_unp, unp1_s, s_parE, par1_s, setAll_nil, setAll_cons, s_aug, aug1_s, aug2_i, aug2_t, aug3_s, s_app, app1_s, app2_s, s_ret, ret1_s, ret1_ite, s_if, if1_s, s_for, s_forT, for1_s, turnF_s, turnT_s, s_brk, s_cnt, s_pass, frzW_rng, frzW_ex,
 d_ev, d_nx, d_rt, d_ite, and_pure, or_pure, tru_bl, tru_int, tru_non, tru_str, tru_lst, tru_tup, pr_some, pr_gd, prB_some, prT_some, iniE, lawE, List.getElem?_cons_zero, List.getElem?_cons_succ, List.getElem?_nil, List.set_cons_zero, List.set_cons_succ, List.set_nil, List.map_cons, List.map_nil, List.nil_append, List.cons_append, List.append_nil, List.length_cons, List.length_nil, Nat.zero_le, Nat.reduceLeDiff, Nat.reduceAdd, List.replicate, ite_true, ite_false, if_true, if_false, Bool.false_eq_true, reduceIte, reduceCtorEq, ite_self, Bool.true_and, Bool.and_true, Bool.not_true, Bool.not_false, Bool.not_not, Option.map_some, Option.map_none, Pu.sizeLine_eq, cmp_ge, cmp_gt, cmp_le, cmp_lt, eq_i, eq_s, eq_b, ne_i, ne_s, ne_b, in_c, nin_c, op_add_i, op_add_s, op_add_t, op_add_l, op_sub_i, op_mul_r, op_mul_l, op_div_i, op_mod_i, bi_int, bi_intb, len_s, len_l, len_t, bi_list_t, bi_list_l, bi_tuple_t, bi_tuple_l, bi_min2, bi_max2, rev_s, rev_l, rev_t, sub_l, sub_t, sub_s, sl_l, sl_t, sl_s, at0, at1, at2, at3, lct_no, lct_yes, lctP_nm, l2T_nm, l2t1_s, ix_nm, ix_tp, lct1_s, lct2_s, lct3_s, gd_pos, e1, frz_slO h4, frz_slO h14, frz_slO h16, frz_slO h17, periods_ev (show w.length ≤ 1000 by omega), la, ep, hz2, beqL, ne_b, beq_self_eq_true, hwe, hs1, hs2, hw0, decide_false, period_ev (show w.length ≤ 1000 by omega), subN, mx, cut_hi, cut_lo, bp, cp, decide_true, hpp, hs3, List.take_append_drop]
    exact ⟨_, _, rfl⟩
theorem twoD_cases {p q n : Nat} (hp : 1 ≤ p) (hp7 : p ≤ 7) (hq : 1 ≤ q) (hq7 : q ≤ 7) (hn : n < 17) :
    (twoD p q n = .tup [.str sLong]) ∨ (twoD p q n = .tup [.str sShort] ∧ ¬ (Nat.gcd p q < min p q ∧ n + 1 = p + q - Nat.gcd p q)) ∨
    (∃ u, twoD p q n = .tup [.str sWord, .str u] ∧ u.length ≤ 16 ∧ n < p + q - Nat.gcd p q ∧ apN u p = 0 ∧ apN u q = 0 ∧ apN u (Nat.gcd p q) ≠ 0) := by
  have ok := okTwo_ok hp hp7 hq hq7 hn
  unfold okTwo at ok
  unfold twoD
  by_cases hl : p + q - Nat.gcd p q ≤ n
  · rw [if_pos hl]; exact .inl rfl
  · rw [if_neg hl]
    rw [decide_eq_false hl, Bool.false_or] at ok
    have hlen : (rootsR p q n).length = n := by
      have : ∀ (s : Nat) (l R : List Nat), (l.foldl (stp s) R).length = R.length := by
        intro s l
        induction l with
        | nil => intro R; rfl
        | cons k l ih => intro R; rw [List.foldl_cons, ih, stp_len]
      unfold rootsR runs1
      rw [this, this, List.length_range']
    cases hb : badR (Nat.gcd p q) n (rootsR p q n) with
    | nil =>
      rw [hb] at ok
      refine .inr (.inl ⟨rfl, fun ⟨a, b⟩ => ?_⟩)
      have ok : (!(decide (Nat.gcd p q < min p q) && decide (n + 1 = p + q - Nat.gcd p q))) = true := ok
      rw [decide_eq_true a, decide_eq_true b] at ok
      cases ok
    | cons b t =>
      rw [hb] at ok
      have ok : (decide (apN (wrd (rootsR p q n) b) p = 0) && decide (apN (wrd (rootsR p q n) b) q = 0) && !decide (apN (wrd (rootsR p q n) b) (Nat.gcd p q) = 0)) = true := ok
      rw [Bool.and_eq_true, Bool.and_eq_true, decide_eq_true_eq, decide_eq_true_eq, Bool.not_eq_true', decide_eq_false_iff_not] at ok
      refine .inr (.inr ⟨_, rfl, ?_, by omega, ok.1.1, ok.1.2, ok.2⟩)
      unfold wrd
      rw [List.length_map, hlen]
      omega
theorem stage2 {s4 : Pu.Slot} (h4 : slO s4) (h1 : wdW one) (h2 : wdW two) (n1 : one ≠ []) (n2 : two ≠ []) (k1 : one.length ≤ 6) (k2 : two.length ≤ 6) {m : Nat} (g : GP m pl) (hm : m < 100000) :
    ∃ env' pl', evSs fuel t_law_2 [.none, .pool, .val (.str one), .val (.str two), s4, .none, .none, .none, .none, .none, .none, .none, .none, .none, .none, .none, .none, .none, .none, .none] pl = some (.rt (.bl true), env', pl') := by
  have l1 : 0 < one.length := List.length_pos_iff.mpr n1
  have l2 : 0 < two.length := List.length_pos_iff.mpr n2
  have hg1 := Nat.le_of_dvd l1 (Nat.gcd_dvd_left one.length two.length)
  have hg2 := Nat.le_of_dvd l2 (Nat.gcd_dvd_right one.length two.length)
  obtain ⟨sz, hsz⟩ : ∃ sz, sz = one.length + two.length - Nat.gcd one.length two.length := ⟨_, rfl⟩
  have hfw := fw_comm n1 n2 hsz (by omega) (by omega)
  have hfw2 : decide ((pw 10 one).take sz = (pw 10 two).take sz) = decide (one ++ two = two ++ one) := decide_eq_decide.mpr hfw
  have hrt : decide (rt one = rt two) = decide (one ++ two = two ++ one) := decide_eq_decide.mpr (rt_eq_iff n1 n2)
  obtain ⟨r, etg⟩ := together_form (pl := pl) h1 h2 (by omega)
  have hq : decide ((if one ++ two = two ++ one then sPowers else sPlace) = [112, 111, 119, 101, 114, 115]) = decide (one ++ two = two ++ one) := by split <;> rename_i h <;> simp [h] <;> decide
  obtain ⟨a, p1, a0, a1, g1, e1⟩ := pick_ok (a := 7) g (by omega) (by decide)
  obtain ⟨b, p2, b0, b1, g2, e2⟩ := pick_ok (a := 7) g1 (by omega) (by decide)
  obtain ⟨c, p3, c0, c1, g3, e3⟩ := pick_ok (a := 17) g2 (by omega) (by decide)
  obtain ⟨p, hp⟩ := Int.eq_ofNat_of_zero_le (show 0 ≤ 1 + a by omega)
  obtain ⟨q, hqq⟩ := Int.eq_ofNat_of_zero_le (show 0 ≤ 1 + b by omega)
  obtain ⟨n, hn⟩ := Int.eq_ofNat_of_zero_le c0
  have tw := two_paper_ev (pl := p3) (p := p) (q := q) (n := n) (by omega) (by omega) (by omega) (by omega) (by omega)
  have hg3 : Nat.gcd p q ≤ p := Nat.le_of_dvd (by omega) (Nat.gcd_dvd_left p q)
  have hg4 : 0 < Nat.gcd p q := Nat.gcd_pos_of_pos_left _ (by omega)
  have lp10 : (pw 10 one).length ≤ 1000 := by rw [pw_len]; omega
  have lp11 : (pw 10 two).length ≤ 1000 := by rw [pw_len]; omega
  have m1 : opBin .Mult (.str one) (.int 10) = some (.str (pw 10 one)) := mulS (b := 10) (by decide) (by omega)
  have m2 : opBin .Mult (.str two) (.int 10) = some (.str (pw 10 two)) := mulS (b := 10) (by decide) (by omega)
  have A : evSs fuel t_law_2 [.none, .pool, .val (.str one), .val (.str two), s4, .none, .none, .none, .none, .none, .none, .none, .none, .none, .none, .none, .none, .none, .none, .none] pl = evSs fuel t_law_9 [.none, .pool, .val (.str one), .val (.str two), s4, .val (.int (Nat.gcd one.length two.length : Nat)), .val (.int (sz : Nat)), .val (.str ((pw 10 one).take sz)), .val (.str ((pw 10 two).take sz)), .val (.int (p : Nat)), .val (.int (q : Nat)), .val (.int (n : Nat)), .val (twoD p q n), .val (.int (Nat.gcd p q : Nat)), .none, .none, .none, .none, .none, .none] p3 := by
    have hs1 : one.length + two.length ≤ 16777216 := by omega
    have hs2 : two.length + one.length ≤ 16777216 := by omega
    unfold t_law_2 t_law_3 t_law_4 t_law_5 t_law_6 t_law_7 t_law_8
    simp (disch := omega) only [gd_T, e_con, e_glob, e_var, rd_val, rd_own, e_bin, bin1_s, bin2_s, e_neg, neg1_s, e_cmp, cmp1_s, cmp2_s, e_chn, chn1_s, chn2_s, chn3_s, e_isK, isK1_s, e_bools, b_last, b_more, bolC_s, bolD_s, e_not, not1_s, e_ite, ite1_s, ite2_s, es_nil, es_cons, es1_s, es2_s, e_tup, e_lst, tup1_s, lst1_s,
 e_sub, sub1_s, sub2_s, o_none, o_some, o1_s, e_sl, sl1_s, sl2_s, sl3_s, e_rev, rev1_s, e_call, call1_s, e_callP, callP1_s, e_bi, bi1_s, e_me, me1_s, me2_s, e_isi, isi1_s, w_rngE, rng1_s, w_exE, wlk1_s, prL_some, walk_lst, walk_tup, walk_str, e_lc, lc1_s, lc2_s, e_lcP, lcP1_s, e_lc2, lcD1_s, e_lrng, lrng1_s, lrng2_s, e_sset, sset1_s, sset2_s, wipeE_nil, wipeE_cons, t_ev, tst1_s, ss_nil, ss_cons, seq_nx, seq_rt, seq_bk, seq_ct, seq_ite,
 s_asgV, s_asgO, asgV_s, asgO_s, settle_t, settle_c, frz_nil, frz_val, frz_none, frz_pool, frz_own, n_non, n_bl, n_int, n_str, n_lst, n_tup, n_nil, n_cons, s_unp, unp1_s, s_parE, par1_s, setAll_nil, setAll_cons, s_aug, aug1_s, aug2_i, aug2_t, aug3_s, s_app, app1_s, app2_s, s_ret, ret1_s, ret1_ite, s_if, if1_s, s_for, s_forT, for1_s, turnF_s, turnT_s, s_brk, s_cnt, s_pass, frzW_rng, frzW_ex,
 d_ev, d_nx, d_rt, d_ite, and_pure, or_pure, tru_bl, tru_int, tru_non, tru_str, tru_lst, tru_tup, pr_some, pr_gd, prB_some, prT_some, iniE, lawE, List.getElem?_cons_zero, List.getElem?_cons_succ, List.getElem?_nil, List.set_cons_zero, List.set_cons_succ, List.set_nil, List.map_cons, List.map_nil, List.nil_append, List.cons_append, List.append_nil, List.length_cons, List.length_nil, Nat.zero_le, Nat.reduceLeDiff, Nat.reduceAdd, List.replicate, ite_true, ite_false, if_true, if_false, Bool.false_eq_true, reduceIte, reduceCtorEq, ite_self, Bool.true_and, Bool.and_true, Bool.not_true, Bool.not_false, Bool.not_not, Option.map_some, Option.map_none, Pu.sizeLine_eq, cmp_ge, cmp_gt, cmp_le, cmp_lt, eq_i, eq_s, eq_b, ne_i, ne_s, ne_b, in_c, nin_c, op_add_i, op_add_s, op_add_t, op_add_l, op_sub_i, op_mul_r, op_mul_l, op_div_i, op_mod_i, bi_int, bi_intb, len_s, len_l, len_t, bi_list_t, bi_list_l, bi_tuple_t, bi_tuple_l, bi_min2, bi_max2, rev_s, rev_l, rev_t, sub_l, sub_t, sub_s, sl_l, sl_t, sl_s, at0, at1, at2, at3, lct_no, lct_yes, lctP_nm, l2T_nm, l2t1_s, ix_nm, ix_tp, lct1_s, lct2_s, lct3_s, gd_pos, frz_slO h4, common_ev (show two.length < 1000000 by omega), addN, subN, ← hsz, m1, m2, cut_hi, beqL, hfw2, etg, hq, ne_b, beq_self_eq_true, root_ev n1 (show one.length ≤ 1000 by omega), root_ev n2 (show two.length ≤ 1000 by omega), hrt, e1, e2, e3, hp, hqq, hn, tw, common_ev (show q < 1000000 by omega)]
  rw [A]
  have hmin : (if (q : Int) < (p : Int) then (q : Int) else (p : Int)) = ((min p q : Nat) : Int) := by split <;> omega
  rcases twoD_cases (p := p) (q := q) (n := n) (by omega) (by omega) (by omega) (by omega) (by omega) with ht | ⟨ht, hns⟩ | ⟨u, ht, ul, un, u1, u2, u3⟩
  · rw [ht]
    obtain ⟨env', pl', h⟩ := stage11 (pl := p3) (x5 := .int (Nat.gcd one.length two.length : Nat)) (x6 := .int (sz : Nat)) (x7 := .str ((pw 10 one).take sz)) (x8 := .str ((pw 10 two).take sz)) (x9 := .int (p : Nat)) (x10 := .int (q : Nat)) (x11 := .int (n : Nat)) (x12 := .tup [.str sLong]) (x13 := .int (Nat.gcd p q : Nat)) h4 slO_n h1 h2 n1 g3 (by omega)
    refine ⟨env', pl', ?_⟩
    rw [← h]
    unfold t_law_9 t_law_10
    have q1 : (sLong == [119, 111, 114, 100]) = false := by decide
    have q2 : (sLong == [115, 104, 111, 114, 116]) = false := by decide
    simp (disch := omega) only [gd_T, e_con, e_glob, e_var, rd_val, rd_own, e_bin, bin1_s, bin2_s, e_neg, neg1_s, e_cmp, cmp1_s, cmp2_s, e_chn, chn1_s, chn2_s, chn3_s, e_isK, isK1_s, e_bools, b_last, b_more, bolC_s, bolD_s, e_not, not1_s, e_ite, ite1_s, ite2_s, es_nil, es_cons, es1_s, es2_s, e_tup, e_lst, tup1_s, lst1_s,
 e_sub, sub1_s, sub2_s, o_none, o_some, o1_s, e_sl, sl1_s, sl2_s, sl3_s, e_rev, rev1_s, e_call, call1_s, e_callP, callP1_s, e_bi, bi1_s, e_me, me1_s, me2_s, e_isi, isi1_s, w_rngE, rng1_s, w_exE, wlk1_s, prL_some, walk_lst, walk_tup, walk_str, e_lc, lc1_s, lc2_s, e_lcP, lcP1_s, e_lc2, lcD1_s, e_lrng, lrng1_s, lrng2_s, e_sset, sset1_s, sset2_s, wipeE_nil, wipeE_cons, t_ev, tst1_s, ss_nil, ss_cons, seq_nx, seq_rt, seq_bk, seq_ct, seq_ite,
 s_asgV, s_asgO, asgV_s, asgO_s, settle_t, settle_c, frz_nil, frz_val, frz_none, frz_pool, frz_own, n_non, n_bl, n_int, n_str, n_lst, n_tup, n_nil, n_cons, s_unp, unp1_s, s_parE, par1_s, setAll_nil, setAll_cons, s_aug, aug1_s, aug2_i, aug2_t, aug3_s, s_app, app1_s, app2_s, s_ret, ret1_s, ret1_ite, s_if, if1_s, s_for, s_forT, for1_s, turnF_s, turnT_s, s_brk, s_cnt, s_pass, frzW_rng, frzW_ex,
 d_ev, d_nx, d_rt, d_ite, and_pure, or_pure, tru_bl, tru_int, tru_non, tru_str, tru_lst, tru_tup, pr_some, pr_gd, prB_some, prT_some, iniE, lawE, List.getElem?_cons_zero, List.getElem?_cons_succ, List.getElem?_nil, List.set_cons_zero, List.set_cons_succ, List.set_nil, List.map_cons, List.map_nil, List.nil_append, List.cons_append, List.append_nil, List.length_cons, List.length_nil, Nat.zero_le, Nat.reduceLeDiff, Nat.reduceAdd, List.replicate, ite_true, ite_false, if_true, if_false, Bool.false_eq_true, reduceIte, reduceCtorEq, ite_self, Bool.true_and, Bool.and_true, Bool.not_true, Bool.not_false, Bool.not_not, Option.map_some, Option.map_none, Pu.sizeLine_eq, cmp_ge, cmp_gt, cmp_le, cmp_lt, eq_i, eq_s, eq_b, ne_i, ne_s, ne_b, in_c, nin_c, op_add_i, op_add_s, op_add_t, op_add_l, op_sub_i, op_mul_r, op_mul_l, op_div_i, op_mod_i, bi_int, bi_intb, len_s, len_l, len_t, bi_list_t, bi_list_l, bi_tuple_t, bi_tuple_l, bi_min2, bi_max2, rev_s, rev_l, rev_t, sub_l, sub_t, sub_s, sl_l, sl_t, sl_s, at0, at1, at2, at3, lct_no, lct_yes, lctP_nm, l2T_nm, l2t1_s, ix_nm, ix_tp, lct1_s, lct2_s, lct3_s, gd_pos, q1, q2]
  · rw [ht]
    obtain ⟨env', pl', h⟩ := stage11 (pl := p3) (x5 := .int (Nat.gcd one.length two.length : Nat)) (x6 := .int (sz : Nat)) (x7 := .str ((pw 10 one).take sz)) (x8 := .str ((pw 10 two).take sz)) (x9 := .int (p : Nat)) (x10 := .int (q : Nat)) (x11 := .int (n : Nat)) (x12 := .tup [.str sShort]) (x13 := .int (Nat.gcd p q : Nat)) h4 slO_n h1 h2 n1 g3 (by omega)
    refine ⟨env', pl', ?_⟩
    rw [← h]
    unfold t_law_9 t_law_10
    have q1 : (sShort == [119, 111, 114, 100]) = false := by decide
    have q2 : (sShort == [115, 104, 111, 114, 116]) = true := by decide
    by_cases hlt : Nat.gcd p q < min p q
    · have hne : ¬ n = p + q - Nat.gcd p q - 1 := fun z => hns ⟨hlt, by omega⟩
      have hlt2 : decide (((Nat.gcd p q : Nat) : Int) < ((min p q : Nat) : Int)) = true := decide_eq_true (by omega)
      simp (disch := omega) only [gd_T, e_con, e_glob, e_var, rd_val, rd_own, e_bin, bin1_s, bin2_s, e_neg, neg1_s, e_cmp, cmp1_s, cmp2_s, e_chn, chn1_s, chn2_s, chn3_s, e_isK, isK1_s, e_bools, b_last, b_more, bolC_s, bolD_s, e_not, not1_s, e_ite, ite1_s, ite2_s, es_nil, es_cons, es1_s, es2_s, e_tup, e_lst, tup1_s, lst1_s,
 e_sub, sub1_s, sub2_s, o_none, o_some, o1_s, e_sl, sl1_s, sl2_s, sl3_s, e_rev, rev1_s, e_call, call1_s, e_callP, callP1_s, e_bi, bi1_s, e_me, me1_s, me2_s, e_isi, isi1_s, w_rngE, rng1_s, w_exE, wlk1_s, prL_some, walk_lst, walk_tup, walk_str, e_lc, lc1_s, lc2_s, e_lcP, lcP1_s, e_lc2, lcD1_s, e_lrng, lrng1_s, lrng2_s, e_sset, sset1_s, sset2_s, wipeE_nil, wipeE_cons, t_ev, tst1_s, ss_nil, ss_cons, seq_nx, seq_rt, seq_bk, seq_ct, seq_ite,
 s_asgV, s_asgO, asgV_s, asgO_s, settle_t, settle_c, frz_nil, frz_val, frz_none, frz_pool, frz_own, n_non, n_bl, n_int, n_str, n_lst, n_tup, n_nil, n_cons, s_unp, unp1_s, s_parE, par1_s, setAll_nil, setAll_cons, s_aug, aug1_s, aug2_i, aug2_t, aug3_s, s_app, app1_s, app2_s, s_ret, ret1_s, ret1_ite, s_if, if1_s, s_for, s_forT, for1_s, turnF_s, turnT_s, s_brk, s_cnt, s_pass, frzW_rng, frzW_ex,
 d_ev, d_nx, d_rt, d_ite, and_pure, or_pure, tru_bl, tru_int, tru_non, tru_str, tru_lst, tru_tup, pr_some, pr_gd, prB_some, prT_some, iniE, lawE, List.getElem?_cons_zero, List.getElem?_cons_succ, List.getElem?_nil, List.set_cons_zero, List.set_cons_succ, List.set_nil, List.map_cons, List.map_nil, List.nil_append, List.cons_append, List.append_nil, List.length_cons, List.length_nil, Nat.zero_le, Nat.reduceLeDiff, Nat.reduceAdd, List.replicate, ite_true, ite_false, if_true, if_false, Bool.false_eq_true, reduceIte, reduceCtorEq, ite_self, Bool.true_and, Bool.and_true, Bool.not_true, Bool.not_false, Bool.not_not, Option.map_some, Option.map_none, Pu.sizeLine_eq, cmp_ge, cmp_gt, cmp_le, cmp_lt, eq_i, eq_s, eq_b, ne_i, ne_s, ne_b, in_c, nin_c, op_add_i, op_add_s, op_add_t, op_add_l, op_sub_i, op_mul_r, op_mul_l, op_div_i, op_mod_i, bi_int, bi_intb, len_s, len_l, len_t, bi_list_t, bi_list_l, bi_tuple_t, bi_tuple_l, bi_min2, bi_max2, rev_s, rev_l, rev_t, sub_l, sub_t, sub_s, sl_l, sl_t, sl_s, at0, at1, at2, at3, lct_no, lct_yes, lctP_nm, l2T_nm, l2t1_s, ix_nm, ix_tp, lct1_s, lct2_s, lct3_s, gd_pos, q1, q2, hmin, hlt2, addN, subN, subN1, beqN, hne, decide_false]
    · have hlt2 : decide (((Nat.gcd p q : Nat) : Int) < ((min p q : Nat) : Int)) = false := decide_eq_false (by omega)
      simp (disch := omega) only [gd_T, e_con, e_glob, e_var, rd_val, rd_own, e_bin, bin1_s, bin2_s, e_neg, neg1_s, e_cmp, cmp1_s, cmp2_s, e_chn, chn1_s, chn2_s, chn3_s, e_isK, isK1_s, e_bools, b_last, b_more, bolC_s, bolD_s, e_not, not1_s, e_ite, ite1_s, ite2_s, es_nil, es_cons, es1_s, es2_s, e_tup, e_lst, tup1_s, lst1_s,
 e_sub, sub1_s, sub2_s, o_none, o_some, o1_s, e_sl, sl1_s, sl2_s, sl3_s, e_rev, rev1_s, e_call, call1_s, e_callP, callP1_s, e_bi, bi1_s, e_me, me1_s, me2_s, e_isi, isi1_s, w_rngE, rng1_s, w_exE, wlk1_s, prL_some, walk_lst, walk_tup, walk_str, e_lc, lc1_s, lc2_s, e_lcP, lcP1_s, e_lc2, lcD1_s, e_lrng, lrng1_s, lrng2_s, e_sset, sset1_s, sset2_s, wipeE_nil, wipeE_cons, t_ev, tst1_s, ss_nil, ss_cons, seq_nx, seq_rt, seq_bk, seq_ct, seq_ite,
 s_asgV, s_asgO, asgV_s, asgO_s, settle_t, settle_c, frz_nil, frz_val, frz_none, frz_pool, frz_own, n_non, n_bl, n_int, n_str, n_lst, n_tup, n_nil, n_cons, s_unp, unp1_s, s_parE, par1_s, setAll_nil, setAll_cons, s_aug, aug1_s, aug2_i, aug2_t, aug3_s, s_app, app1_s, app2_s, s_ret, ret1_s, ret1_ite, s_if, if1_s, s_for, s_forT, for1_s, turnF_s, turnT_s, s_brk, s_cnt, s_pass, frzW_rng, frzW_ex,
 d_ev, d_nx, d_rt, d_ite, and_pure, or_pure, tru_bl, tru_int, tru_non, tru_str, tru_lst, tru_tup, pr_some, pr_gd, prB_some, prT_some, iniE, lawE, List.getElem?_cons_zero, List.getElem?_cons_succ, List.getElem?_nil, List.set_cons_zero, List.set_cons_succ, List.set_nil, List.map_cons, List.map_nil, List.nil_append, List.cons_append, List.append_nil, List.length_cons, List.length_nil, Nat.zero_le, Nat.reduceLeDiff, Nat.reduceAdd, List.replicate, ite_true, ite_false, if_true, if_false, Bool.false_eq_true, reduceIte, reduceCtorEq, ite_self, Bool.true_and, Bool.and_true, Bool.not_true, Bool.not_false, Bool.not_not, Option.map_some, Option.map_none, Pu.sizeLine_eq, cmp_ge, cmp_gt, cmp_le, cmp_lt, eq_i, eq_s, eq_b, ne_i, ne_s, ne_b, in_c, nin_c, op_add_i, op_add_s, op_add_t, op_add_l, op_sub_i, op_mul_r, op_mul_l, op_div_i, op_mod_i, bi_int, bi_intb, len_s, len_l, len_t, bi_list_t, bi_list_l, bi_tuple_t, bi_tuple_l, bi_min2, bi_max2, rev_s, rev_l, rev_t, sub_l, sub_t, sub_s, sl_l, sl_t, sl_s, at0, at1, at2, at3, lct_no, lct_yes, lctP_nm, l2T_nm, l2t1_s, ix_nm, ix_tp, lct1_s, lct2_s, lct3_s, gd_pos, q1, q2, hmin, hlt2]
  · rw [ht]
    obtain ⟨env', pl', h⟩ := stage11 (pl := p3) (x5 := .int (Nat.gcd one.length two.length : Nat)) (x6 := .int (sz : Nat)) (x7 := .str ((pw 10 one).take sz)) (x8 := .str ((pw 10 two).take sz)) (x9 := .int (p : Nat)) (x10 := .int (q : Nat)) (x11 := .int (n : Nat)) (x12 := .tup [.str sWord, .str u]) (x13 := .int (Nat.gcd p q : Nat)) (s14 := .val (.str u)) h4 slO_v h1 h2 n1 g3 (by omega)
    refine ⟨env', pl', ?_⟩
    rw [← h]
    unfold t_law_9 t_law_10
    have q1 : (sWord == [119, 111, 114, 100]) = true := by decide
    have q2 : (sWord == [115, 104, 111, 114, 116]) = false := by decide
    have hge : (!decide ((n : Int) < ((p + q - Nat.gcd p q : Nat) : Int))) = false := by rw [decide_eq_true (by omega)]; rfl
    simp (disch := omega) only [gd_T, e_con, e_glob, e_var, rd_val, rd_own, e_bin, bin1_s, bin2_s, e_neg, neg1_s, e_cmp, cmp1_s, cmp2_s, e_chn, chn1_s, chn2_s, chn3_s, e_isK, isK1_s, e_bools, b_last, b_more, bolC_s, bolD_s, e_not, not1_s, e_ite, ite1_s, ite2_s, es_nil, es_cons, es1_s, es2_s, e_tup, e_lst, tup1_s, lst1_s,
 e_sub, sub1_s, sub2_s, o_none, o_some, o1_s, e_sl, sl1_s, sl2_s, sl3_s, e_rev, rev1_s, e_call, call1_s, e_callP, callP1_s, e_bi, bi1_s, e_me, me1_s, me2_s, e_isi, isi1_s, w_rngE, rng1_s, w_exE, wlk1_s, prL_some, walk_lst, walk_tup, walk_str, e_lc, lc1_s, lc2_s, e_lcP, lcP1_s, e_lc2, lcD1_s, e_lrng, lrng1_s, lrng2_s, e_sset, sset1_s, sset2_s, wipeE_nil, wipeE_cons, t_ev, tst1_s, ss_nil, ss_cons, seq_nx, seq_rt, seq_bk, seq_ct, seq_ite,
 s_asgV, s_asgO, asgV_s, asgO_s, settle_t, settle_c, frz_nil, frz_val, frz_none, frz_pool, frz_own, n_non, n_bl, n_int, n_str, n_lst, n_tup, n_nil, n_cons, s_unp, unp1_s, s_parE, par1_s, setAll_nil, setAll_cons, s_aug, aug1_s, aug2_i, aug2_t, aug3_s, s_app, app1_s, app2_s, s_ret, ret1_s, ret1_ite, s_if, if1_s, s_for, s_forT, for1_s, turnF_s, turnT_s, s_brk, s_cnt, s_pass, frzW_rng, frzW_ex,
 d_ev, d_nx, d_rt, d_ite, and_pure, or_pure, tru_bl, tru_int, tru_non, tru_str, tru_lst, tru_tup, pr_some, pr_gd, prB_some, prT_some, iniE, lawE, List.getElem?_cons_zero, List.getElem?_cons_succ, List.getElem?_nil, List.set_cons_zero, List.set_cons_succ, List.set_nil, List.map_cons, List.map_nil, List.nil_append, List.cons_append, List.append_nil, List.length_cons, List.length_nil, Nat.zero_le, Nat.reduceLeDiff, Nat.reduceAdd, List.replicate, ite_true, ite_false, if_true, if_false, Bool.false_eq_true, reduceIte, reduceCtorEq, ite_self, Bool.true_and, Bool.and_true, Bool.not_true, Bool.not_false, Bool.not_not, Option.map_some, Option.map_none, Pu.sizeLine_eq, cmp_ge, cmp_gt, cmp_le, cmp_lt, eq_i, eq_s, eq_b, ne_i, ne_s, ne_b, in_c, nin_c, op_add_i, op_add_s, op_add_t, op_add_l, op_sub_i, op_mul_r, op_mul_l, op_div_i, op_mod_i, bi_int, bi_intb, len_s, len_l, len_t, bi_list_t, bi_list_l, bi_tuple_t, bi_tuple_l, bi_min2, bi_max2, rev_s, rev_l, rev_t, sub_l, sub_t, sub_s, sl_l, sl_t, sl_s, at0, at1, at2, at3, lct_no, lct_yes, lctP_nm, l2T_nm, l2t1_s, ix_nm, ix_tp, lct1_s, lct2_s, lct3_s, gd_pos, q1, q2, frz_slO h4, addN, subN, hge, has_period_ev (show u.length ≤ 1000 by omega), u1, u2, u3, decide_true, decide_false]
theorem law_ok : ∀ rows, Rows80 rows → ∃ n env' pl', evSs n b_law (lawE 20) (some ⟨rows, 0⟩) = some (.rt (.bl true), env', pl') := by
  intro rows hrows
  refine ⟨fuel, ?_⟩
  obtain ⟨one, p1, o0, o1, o2, g1, e1⟩ := drawn_ok (lo := 1) (mo := 5) (sz := 2) (GP.start hrows) (by decide) (by decide) (by decide) (by decide) (by decide) (by decide)
  obtain ⟨two, p2, w0, w1, w2, g2, e2⟩ := drawn_ok (lo := 1) (mo := 5) (sz := 2) g1 (by decide) (by decide) (by decide) (by decide) (by decide) (by decide)
  obtain ⟨c, p3, c0, c1, g3, e3⟩ := pick_ok (a := 3) g2 (by decide) (by decide)
  have h1 := wdW_drawn (w := one) (by omega) (by decide) o2
  have h2 := wdW_drawn (w := two) (by omega) (by decide) w2
  unfold b_law
  by_cases hc : c = 0
  · obtain ⟨pt, p4, t0, t1, t2, g4, e4⟩ := drawn_ok (lo := 1) (mo := 2) (sz := 2) g3 (by decide) (by decide) (by decide) (by decide) (by decide) (by decide)
    have hpt := wdW_drawn (w := pt) (by omega) (by decide) t2
    obtain ⟨i, p5, i0, i1, g5, e5⟩ := pick_ok (a := 2) g4 (by decide) (by decide)
    obtain ⟨j, p6, j0, j1, g6, e6⟩ := pick_ok (a := 3) g5 (by decide) (by decide)
    obtain ⟨a, ha⟩ := Int.eq_ofNat_of_zero_le (show 0 ≤ 1 + i by omega)
    obtain ⟨b, hb⟩ := Int.eq_ofNat_of_zero_le (show 0 ≤ 1 + j by omega)
    have m1 : a * pt.length ≤ 2 * 2 := Nat.mul_le_mul (by omega) (by omega)
    have m2 : b * pt.length ≤ 3 * 2 := Nat.mul_le_mul (by omega) (by omega)
    have q1 : 0 < a * pt.length := Nat.mul_pos (by omega) (by omega)
    have q2 : 0 < b * pt.length := Nat.mul_pos (by omega) (by omega)
    obtain ⟨env', pl', h⟩ := stage2 (pl := p6) (s4 := .val (.str pt)) slO_v (wdW_pw (n := a) hpt (by omega)) (wdW_pw (n := b) hpt (by omega)) (ne_of_len (by rw [pw_len]; exact q1)) (ne_of_len (by rw [pw_len]; exact q2)) (by rw [pw_len]; omega) (by rw [pw_len]; omega) g6 (by decide)
    refine ⟨env', pl', ?_⟩
    rw [← h]
    have hc' : (c == 0) = true := by simpa using hc
    unfold t_law_0 t_law_1
    simp (disch := omega) only [gd_T, e_con, e_glob, e_var, rd_val, rd_own, e_bin, bin1_s, bin2_s, e_neg, neg1_s, e_cmp, cmp1_s, cmp2_s, e_chn, chn1_s, chn2_s, chn3_s, e_isK, isK1_s, e_bools, b_last, b_more, bolC_s, bolD_s, e_not, not1_s, e_ite, ite1_s, ite2_s, es_nil, es_cons, es1_s, es2_s, e_tup, e_lst, tup1_s, lst1_s,
 e_sub, sub1_s, sub2_s, o_none, o_some, o1_s, e_sl, sl1_s, sl2_s, sl3_s, e_rev, rev1_s, e_call, call1_s, e_callP, callP1_s, e_bi, bi1_s, e_me, me1_s, me2_s, e_isi, isi1_s, w_rngE, rng1_s, w_exE, wlk1_s, prL_some, walk_lst, walk_tup, walk_str, e_lc, lc1_s, lc2_s, e_lcP, lcP1_s, e_lc2, lcD1_s, e_lrng, lrng1_s, lrng2_s, e_sset, sset1_s, sset2_s, wipeE_nil, wipeE_cons, t_ev, tst1_s, ss_nil, ss_cons, seq_nx, seq_rt, seq_bk, seq_ct, seq_ite,
 s_asgV, s_asgO, asgV_s, asgO_s, settle_t, settle_c, frz_nil, frz_val, frz_none, frz_pool, frz_own, n_non, n_bl, n_int, n_str, n_lst, n_tup, n_nil, n_cons, s_unp, unp1_s, s_parE, par1_s, setAll_nil, setAll_cons, s_aug, aug1_s, aug2_i, aug2_t, aug3_s, s_app, app1_s, app2_s, s_ret, ret1_s, ret1_ite, s_if, if1_s, s_for, s_forT, for1_s, turnF_s, turnT_s, s_brk, s_cnt, s_pass, frzW_rng, frzW_ex,
 d_ev, d_nx, d_rt, d_ite, and_pure, or_pure, tru_bl, tru_int, tru_non, tru_str, tru_lst, tru_tup, pr_some, pr_gd, prB_some, prT_some, iniE, lawE, List.getElem?_cons_zero, List.getElem?_cons_succ, List.getElem?_nil, List.set_cons_zero, List.set_cons_succ, List.set_nil, List.map_cons, List.map_nil, List.nil_append, List.cons_append, List.append_nil, List.length_cons, List.length_nil, Nat.zero_le, Nat.reduceLeDiff, Nat.reduceAdd, List.replicate, ite_true, ite_false, if_true, if_false, Bool.false_eq_true, reduceIte, reduceCtorEq, ite_self, Bool.true_and, Bool.and_true, Bool.not_true, Bool.not_false, Bool.not_not, Option.map_some, Option.map_none, Pu.sizeLine_eq, cmp_ge, cmp_gt, cmp_le, cmp_lt, eq_i, eq_s, eq_b, ne_i, ne_s, ne_b, in_c, nin_c, op_add_i, op_add_s, op_add_t, op_add_l, op_sub_i, op_mul_r, op_mul_l, op_div_i, op_mod_i, bi_int, bi_intb, len_s, len_l, len_t, bi_list_t, bi_list_l, bi_tuple_t, bi_tuple_l, bi_min2, bi_max2, rev_s, rev_l, rev_t, sub_l, sub_t, sub_s, sl_l, sl_t, sl_s, at0, at1, at2, at3, lct_no, lct_yes, lctP_nm, l2T_nm, l2t1_s, ix_nm, ix_tp, lct1_s, lct2_s, lct3_s, gd_pos, e1, e2, e3, hc', e4, e5, e6, ha, hb, mulS]
  · obtain ⟨env', pl', h⟩ := stage2 (pl := p3) (s4 := .none) slO_n h1 h2 (ne_of_len (by omega)) (ne_of_len (by omega)) (by omega) (by omega) g3 (by decide)
    refine ⟨env', pl', ?_⟩
    rw [← h]
    have hc' : (c == 0) = false := by simpa using hc
    unfold t_law_0 t_law_1
    simp (disch := omega) only [gd_T, e_con, e_glob, e_var, rd_val, rd_own, e_bin, bin1_s, bin2_s, e_neg, neg1_s, e_cmp, cmp1_s, cmp2_s, e_chn, chn1_s, chn2_s, chn3_s, e_isK, isK1_s, e_bools, b_last, b_more, bolC_s, bolD_s, e_not, not1_s, e_ite, ite1_s, ite2_s, es_nil, es_cons, es1_s, es2_s, e_tup, e_lst, tup1_s, lst1_s,
 e_sub, sub1_s, sub2_s, o_none, o_some, o1_s, e_sl, sl1_s, sl2_s, sl3_s, e_rev, rev1_s, e_call, call1_s, e_callP, callP1_s, e_bi, bi1_s, e_me, me1_s, me2_s, e_isi, isi1_s, w_rngE, rng1_s, w_exE, wlk1_s, prL_some, walk_lst, walk_tup, walk_str, e_lc, lc1_s, lc2_s, e_lcP, lcP1_s, e_lc2, lcD1_s, e_lrng, lrng1_s, lrng2_s, e_sset, sset1_s, sset2_s, wipeE_nil, wipeE_cons, t_ev, tst1_s, ss_nil, ss_cons, seq_nx, seq_rt, seq_bk, seq_ct, seq_ite,
 s_asgV, s_asgO, asgV_s, asgO_s, settle_t, settle_c, frz_nil, frz_val, frz_none, frz_pool, frz_own, n_non, n_bl, n_int, n_str, n_lst, n_tup, n_nil, n_cons, s_unp, unp1_s, s_parE, par1_s, setAll_nil, setAll_cons, s_aug, aug1_s, aug2_i, aug2_t, aug3_s, s_app, app1_s, app2_s, s_ret, ret1_s, ret1_ite, s_if, if1_s, s_for, s_forT, for1_s, turnF_s, turnT_s, s_brk, s_cnt, s_pass, frzW_rng, frzW_ex,
 d_ev, d_nx, d_rt, d_ite, and_pure, or_pure, tru_bl, tru_int, tru_non, tru_str, tru_lst, tru_tup, pr_some, pr_gd, prB_some, prT_some, iniE, lawE, List.getElem?_cons_zero, List.getElem?_cons_succ, List.getElem?_nil, List.set_cons_zero, List.set_cons_succ, List.set_nil, List.map_cons, List.map_nil, List.nil_append, List.cons_append, List.append_nil, List.length_cons, List.length_nil, Nat.zero_le, Nat.reduceLeDiff, Nat.reduceAdd, List.replicate, ite_true, ite_false, if_true, if_false, Bool.false_eq_true, reduceIte, reduceCtorEq, ite_self, Bool.true_and, Bool.and_true, Bool.not_true, Bool.not_false, Bool.not_not, Option.map_some, Option.map_none, Pu.sizeLine_eq, cmp_ge, cmp_gt, cmp_le, cmp_lt, eq_i, eq_s, eq_b, ne_i, ne_s, ne_b, in_c, nin_c, op_add_i, op_add_s, op_add_t, op_add_l, op_sub_i, op_mul_r, op_mul_l, op_div_i, op_mod_i, bi_int, bi_intb, len_s, len_l, len_t, bi_list_t, bi_list_l, bi_tuple_t, bi_tuple_l, bi_min2, bi_max2, rev_s, rev_l, rev_t, sub_l, sub_t, sub_s, sl_l, sl_t, sl_s, at0, at1, at2, at3, lct_no, lct_yes, lctP_nm, l2T_nm, l2t1_s, ix_nm, ix_tp, lct1_s, lct2_s, lct3_s, gd_pos, e1, e2, e3, hc']
end
end Q28
set_option Elab.async false
set_option linter.all false
set_option maxRecDepth 100000
set_option maxHeartbeats 0
namespace Q28
open PySem PySem.Spec PyProof.Rows L2 Pu
def top (i : Nat) : Stmt := PySem.Challenge.pw_wordwright_k28_whole_periods_and_powers.main.body.getD i (.Pass ⟨0, 0, 0, 0⟩)
abbrev d_is_whole : He.DefD := ⟨("is_whole", none), "is_whole", "is_whole", defArgs (top 3), defBody (top 3), defScope (top 3), [], []⟩
abbrev d_is_from : He.DefD := ⟨("is_from", none), "is_from", "is_from", defArgs (top 4), defBody (top 4), defScope (top 4), [], []⟩
abbrev d_is_named : He.DefD := ⟨("is_named", none), "is_named", "is_named", defArgs (top 5), defBody (top 5), defScope (top 5), [], []⟩
abbrev d_is_word : He.DefD := ⟨("is_word", none), "is_word", "is_word", defArgs (top 6), defBody (top 6), defScope (top 6), [], []⟩
abbrev d_common : He.DefD := ⟨("common", none), "common", "common", defArgs (top 7), defBody (top 7), defScope (top 7), [], []⟩
abbrev d_borders : He.DefD := ⟨("borders", none), "borders", "borders", defArgs (top 9), defBody (top 9), defScope (top 9), [], []⟩
abbrev d_periods : He.DefD := ⟨("periods", none), "periods", "periods", defArgs (top 10), defBody (top 10), defScope (top 10), [], []⟩
abbrev d_period : He.DefD := ⟨("period", none), "period", "period", defArgs (top 11), defBody (top 11), defScope (top 11), [], []⟩
abbrev d_two_paper : He.DefD := ⟨("two_paper", none), "two_paper", "two_paper", defArgs (top 12), defBody (top 12), defScope (top 12), [], []⟩
abbrev d_has_period : He.DefD := ⟨("has_period", none), "has_period", "has_period", defArgs (top 13), defBody (top 13), defScope (top 13), [], []⟩
abbrev d_root : He.DefD := ⟨("root", none), "root", "root", defArgs (top 15), defBody (top 15), defScope (top 15), [], []⟩
abbrev d_together_paper : He.DefD := ⟨("together_paper", none), "together_paper", "together_paper", defArgs (top 16), defBody (top 16), defScope (top 16), [], []⟩
abbrev d_between_paper : He.DefD := ⟨("between_paper", none), "between_paper", "between_paper", defArgs (top 17), defBody (top 17), defScope (top 17), [], []⟩
abbrev d_check_between : He.DefD := ⟨("check_between", none), "check_between", "check_between", defArgs (top 18), defBody (top 18), defScope (top 18), [], []⟩
abbrev d__law_cell : He.DefD := ⟨("_law_cell", none), "_law_cell", "_law_cell", defArgs (top 20), defBody (top 20), defScope (top 20), [], []⟩
abbrev d__law_draws : He.DefD := ⟨("_law_draws", none), "_law_draws", "_law_draws", defArgs (top 21), defBody (top 21), defScope (top 21), [], []⟩
abbrev d__law_pool : He.DefD := ⟨("_law_pool", none), "_law_pool", "_law_pool", defArgs (top 22), defBody (top 22), defScope (top 22), [], []⟩
abbrev d__law_pick : He.DefD := ⟨("_law_pick", none), "_law_pick", "_law_pick", defArgs (top 23), defBody (top 23), defScope (top 23), [], []⟩
abbrev d__law_drawn : He.DefD := ⟨("_law_drawn", none), "_law_drawn", "_law_drawn", defArgs (top 24), defBody (top 24), defScope (top 24), [], []⟩
abbrev d_law : He.DefD := ⟨("law", none), "law", "law", defArgs (top 25), defBody (top 25), defScope (top 25), [], []⟩
def fa : List He.Fa := [.glo "is_whole", .glo "is_from", .glo "is_named", .glo "is_word", .glo "common", .glo "borders", .glo "periods", .glo "period", .glo "two_paper", .glo "has_period", .glo "root", .glo "together_paper", .glo "between_paper", .glo "check_between", .glo "_law_cell", .glo "_law_draws", .glo "_law_pool", .glo "_law_pick", .glo "_law_drawn", .glo "law", .free "len", .free "sum", .free "max", .free "min", .free "all", .free "any", .free "abs", .free "sorted", .free "tuple", .free "list", .free "int", .free "str", .free "bool", .free "range", .free "isinstance", .free "dict", .free "set", .str "LETTERS" "abcd", .int "MOST" 60]
def fn : List He.DefD := [d_is_whole, d_is_from, d_is_named, d_is_word, d_common, d_borders, d_periods, d_period, d_two_paper, d_has_period, d_root, d_together_paper, d_between_paper, d_check_between, d__law_cell, d__law_draws, d__law_pool, d__law_pick, d__law_drawn, d_law]
theorem sc_is_whole : FnScope ["value"] ["value"] (defScope (top 3)) := ⟨rfl, rfl, rfl, by decide +kernel, rfl, by decide +kernel, by decide +kernel⟩
theorem ok_is_whole : okSs ["value"] (defScope (top 3)) b_is_whole (defBody (top 3)) = true := by kernel_rfl
theorem sc_is_from : FnScope ["value", "low", "high"] ["value", "low", "high"] (defScope (top 4)) := ⟨rfl, rfl, rfl, by decide +kernel, rfl, by decide +kernel, by decide +kernel⟩
theorem ok_is_from : okSs ["value", "low", "high"] (defScope (top 4)) b_is_from (defBody (top 4)) = true := by kernel_rfl
theorem sc_is_named : FnScope ["value", "word", "size"] ["value", "word", "size"] (defScope (top 5)) := ⟨rfl, rfl, rfl, by decide +kernel, rfl, by decide +kernel, by decide +kernel⟩
theorem ok_is_named : okSs ["value", "word", "size"] (defScope (top 5)) b_is_named (defBody (top 5)) = true := by kernel_rfl
theorem sc_is_word : FnScope ["value", "letter"] ["value"] (defScope (top 6)) := ⟨rfl, rfl, rfl, by decide +kernel, rfl, by decide +kernel, by decide +kernel⟩
theorem ok_is_word : okSs ["value", "letter"] (defScope (top 6)) b_is_word (defBody (top 6)) = true := by kernel_rfl
theorem sc_common : FnScope ["a", "b"] ["a", "b"] (defScope (top 7)) := ⟨rfl, rfl, rfl, by decide +kernel, rfl, by decide +kernel, by decide +kernel⟩
theorem ok_common : okSs ["a", "b"] (defScope (top 7)) b_common (defBody (top 7)) = true := by kernel_rfl
theorem sc_borders : FnScope ["word", "k"] ["word"] (defScope (top 9)) := ⟨rfl, rfl, rfl, by decide +kernel, rfl, by decide +kernel, by decide +kernel⟩
theorem ok_borders : okSs ["word", "k"] (defScope (top 9)) b_borders (defBody (top 9)) = true := by kernel_rfl
theorem sc_periods : FnScope ["word", "k"] ["word"] (defScope (top 10)) := ⟨rfl, rfl, rfl, by decide +kernel, rfl, by decide +kernel, by decide +kernel⟩
theorem ok_periods : okSs ["word", "k"] (defScope (top 10)) b_periods (defBody (top 10)) = true := by kernel_rfl
theorem sc_period : FnScope ["word"] ["word"] (defScope (top 11)) := ⟨rfl, rfl, rfl, by decide +kernel, rfl, by decide +kernel, by decide +kernel⟩
theorem ok_period : okSs ["word"] (defScope (top 11)) b_period (defBody (top 11)) = true := by kernel_rfl
theorem sc_two_paper : FnScope ["p", "q", "n", "d", "roots", "step", "place", "low", "high", "root", "bad", "one"] ["p", "q", "n"] (defScope (top 12)) := ⟨rfl, rfl, rfl, by decide +kernel, rfl, by decide +kernel, by decide +kernel⟩
theorem ok_two_paper : okSs ["p", "q", "n", "d", "roots", "step", "place", "low", "high", "root", "bad", "one"] (defScope (top 12)) b_two_paper (defBody (top 12)) = true := by kernel_rfl
theorem sc_has_period : FnScope ["word", "p", "place"] ["word", "p"] (defScope (top 13)) := ⟨rfl, rfl, rfl, by decide +kernel, rfl, by decide +kernel, by decide +kernel⟩
theorem ok_has_period : okSs ["word", "p", "place"] (defScope (top 13)) b_has_period (defBody (top 13)) = true := by kernel_rfl
theorem sc_root : FnScope ["word", "size"] ["word"] (defScope (top 15)) := ⟨rfl, rfl, rfl, by decide +kernel, rfl, by decide +kernel, by decide +kernel⟩
theorem ok_root : okSs ["word", "size"] (defScope (top 15)) b_root (defBody (top 15)) = true := by kernel_rfl
theorem sc_together_paper : FnScope ["one", "two", "whole", "base", "size", "left", "right", "k"] ["one", "two"] (defScope (top 16)) := ⟨rfl, rfl, rfl, by decide +kernel, rfl, by decide +kernel, by decide +kernel⟩
theorem ok_together_paper : okSs ["one", "two", "whole", "base", "size", "left", "right", "k"] (defScope (top 16)) b_together_paper (defBody (top 16)) = true := by kernel_rfl
theorem sc_between_paper : FnScope ["one", "two", "mid", "left", "right", "size", "bad", "k"] ["one", "two", "mid"] (defScope (top 17)) := ⟨rfl, rfl, rfl, by decide +kernel, rfl, by decide +kernel, by decide +kernel⟩
theorem ok_between_paper : okSs ["one", "two", "mid", "left", "right", "size", "bad", "k"] (defScope (top 17)) b_between_paper (defBody (top 17)) = true := by kernel_rfl
theorem sc_check_between : FnScope ["one", "two", "mid", "value", "size", "u", "v", "k"] ["one", "two", "mid", "value"] (defScope (top 18)) := ⟨rfl, rfl, rfl, by decide +kernel, rfl, by decide +kernel, by decide +kernel⟩
theorem ok_check_between : okSs ["one", "two", "mid", "value", "size", "u", "v", "k"] (defScope (top 18)) b_check_between (defBody (top 18)) = true := by kernel_rfl
theorem sc__law_cell : FnScope ["script", "k"] ["script", "k"] (defScope (top 20)) := ⟨rfl, rfl, rfl, by decide +kernel, rfl, by decide +kernel, by decide +kernel⟩
theorem sc__law_draws : FnScope ["cell", "amount", "rows", "left", "k", "blended"] ["cell", "amount"] (defScope (top 21)) := ⟨rfl, rfl, rfl, by decide +kernel, rfl, by decide +kernel, by decide +kernel⟩
theorem ok__law_draws : okSs ["cell", "amount", "rows", "left", "k", "blended"] (defScope (top 21)) b__law_draws (defBody (top 21)) = true := by kernel_rfl
theorem sc__law_pool : FnScope nPool ["script"] (defScope (top 22)) := ⟨rfl, rfl, rfl, by decide +kernel, rfl, by decide +kernel, by decide +kernel⟩
theorem sc__law_pick : FnScope nPick ["pool", "amount"] (defScope (top 23)) := ⟨rfl, rfl, rfl, by decide +kernel, rfl, by decide +kernel, by decide +kernel⟩
theorem sc__law_drawn : FnScope ["pool", "low", "most", "size", "n", "word", "k", "way"] ["pool", "low", "most", "size"] (defScope (top 24)) := ⟨rfl, rfl, rfl, by decide +kernel, rfl, by decide +kernel, by decide +kernel⟩
theorem ok__law_drawn : okSs ["pool", "low", "most", "size", "n", "word", "k", "way"] (defScope (top 24)) b__law_drawn (defBody (top 24)) = true := by kernel_rfl
theorem sc_law : FnScope ["script", "pool", "one", "two", "part", "d", "size", "left", "right", "p", "q", "n", "told", "g", "word", "rows", "a", "b", "k", "mid"] ["script"] (defScope (top 25)) := ⟨rfl, rfl, rfl, by decide +kernel, rfl, by decide +kernel, by decide +kernel⟩
theorem ok_law : okSs ["script", "pool", "one", "two", "part", "d", "size", "left", "right", "p", "q", "n", "told", "g", "word", "rows", "a", "b", "k", "mid"] (defScope (top 25)) b_law (defBody (top 25)).tail = true := by kernel_rfl
theorem facts (hD : DrawsOk F__law_draws) (hG : ∀ rows, Rows80 rows → ∃ n env' pl', evSs n b_law (lawE 20) (some ⟨rows, 0⟩) = some (.rt (.bl true), env', pl')) {P : Program} {w : World} {K : PySem.W.Frag} {h : Heap} {mg : Str → Option Value} {f : Addr} (X : K.In h) (G : h.Ns mainGlobals mg) (hfa : mg ("law" : Str) = some (.ref f)) (c : He.SaysD fa fn K) :
    ∃ fd : FuncData, (∀ (s : Shared) (v : Value), BindsTo s fd ⟨[v], []⟩ [("script", v)]) ∧ ∀ base : Heap, K.In base → base.Ns mainGlobals mg → FnOk P w K mg base CX0 4 f fd ["script"] (spLaw K) := by
  obtain ⟨fd_is_whole, D_is_whole⟩ := c.def_ 0 (d := d_is_whole) rfl
  have g_is_whole := He.glo_ok X G (c.fact 0 (f := .glo "is_whole") rfl)
  obtain ⟨fd_is_from, D_is_from⟩ := c.def_ 1 (d := d_is_from) rfl
  have g_is_from := He.glo_ok X G (c.fact 1 (f := .glo "is_from") rfl)
  obtain ⟨fd_is_named, D_is_named⟩ := c.def_ 2 (d := d_is_named) rfl
  have g_is_named := He.glo_ok X G (c.fact 2 (f := .glo "is_named") rfl)
  obtain ⟨fd_is_word, D_is_word⟩ := c.def_ 3 (d := d_is_word) rfl
  have g_is_word := He.glo_ok X G (c.fact 3 (f := .glo "is_word") rfl)
  obtain ⟨fd_common, D_common⟩ := c.def_ 4 (d := d_common) rfl
  have g_common := He.glo_ok X G (c.fact 4 (f := .glo "common") rfl)
  obtain ⟨fd_borders, D_borders⟩ := c.def_ 5 (d := d_borders) rfl
  have g_borders := He.glo_ok X G (c.fact 5 (f := .glo "borders") rfl)
  obtain ⟨fd_periods, D_periods⟩ := c.def_ 6 (d := d_periods) rfl
  have g_periods := He.glo_ok X G (c.fact 6 (f := .glo "periods") rfl)
  obtain ⟨fd_period, D_period⟩ := c.def_ 7 (d := d_period) rfl
  have g_period := He.glo_ok X G (c.fact 7 (f := .glo "period") rfl)
  obtain ⟨fd_two_paper, D_two_paper⟩ := c.def_ 8 (d := d_two_paper) rfl
  have g_two_paper := He.glo_ok X G (c.fact 8 (f := .glo "two_paper") rfl)
  obtain ⟨fd_has_period, D_has_period⟩ := c.def_ 9 (d := d_has_period) rfl
  have g_has_period := He.glo_ok X G (c.fact 9 (f := .glo "has_period") rfl)
  obtain ⟨fd_root, D_root⟩ := c.def_ 10 (d := d_root) rfl
  have g_root := He.glo_ok X G (c.fact 10 (f := .glo "root") rfl)
  obtain ⟨fd_together_paper, D_together_paper⟩ := c.def_ 11 (d := d_together_paper) rfl
  have g_together_paper := He.glo_ok X G (c.fact 11 (f := .glo "together_paper") rfl)
  obtain ⟨fd_between_paper, D_between_paper⟩ := c.def_ 12 (d := d_between_paper) rfl
  have g_between_paper := He.glo_ok X G (c.fact 12 (f := .glo "between_paper") rfl)
  obtain ⟨fd_check_between, D_check_between⟩ := c.def_ 13 (d := d_check_between) rfl
  have g_check_between := He.glo_ok X G (c.fact 13 (f := .glo "check_between") rfl)
  obtain ⟨fd__law_cell, D__law_cell⟩ := c.def_ 14 (d := d__law_cell) rfl
  have g__law_cell := He.glo_ok X G (c.fact 14 (f := .glo "_law_cell") rfl)
  obtain ⟨fd__law_draws, D__law_draws⟩ := c.def_ 15 (d := d__law_draws) rfl
  have g__law_draws := He.glo_ok X G (c.fact 15 (f := .glo "_law_draws") rfl)
  obtain ⟨fd__law_pool, D__law_pool⟩ := c.def_ 16 (d := d__law_pool) rfl
  have g__law_pool := He.glo_ok X G (c.fact 16 (f := .glo "_law_pool") rfl)
  obtain ⟨fd__law_pick, D__law_pick⟩ := c.def_ 17 (d := d__law_pick) rfl
  have g__law_pick := He.glo_ok X G (c.fact 17 (f := .glo "_law_pick") rfl)
  obtain ⟨fd__law_drawn, D__law_drawn⟩ := c.def_ 18 (d := d__law_drawn) rfl
  have g__law_drawn := He.glo_ok X G (c.fact 18 (f := .glo "_law_drawn") rfl)
  obtain ⟨fd_law, D_law⟩ := c.def_ 19 (d := d_law) rfl
  have g_law := He.glo_ok X G (c.fact 19 (f := .glo "law") rfl)
  have blt : ∀ x ∈ bltNames, mg x = none := by
    intro x hx
    simp only [bltNames, List.mem_cons, List.not_mem_nil, or_false] at hx
    rcases hx with rfl | rfl | rfl | rfl | rfl | rfl | rfl | rfl | rfl | rfl | rfl | rfl | rfl | rfl | rfl | rfl | rfl
    · exact He.free_ok X G (c.fact 20 (f := .free "len") rfl)
    · exact He.free_ok X G (c.fact 21 (f := .free "sum") rfl)
    · exact He.free_ok X G (c.fact 22 (f := .free "max") rfl)
    · exact He.free_ok X G (c.fact 23 (f := .free "min") rfl)
    · exact He.free_ok X G (c.fact 24 (f := .free "all") rfl)
    · exact He.free_ok X G (c.fact 25 (f := .free "any") rfl)
    · exact He.free_ok X G (c.fact 26 (f := .free "abs") rfl)
    · exact He.free_ok X G (c.fact 27 (f := .free "sorted") rfl)
    · exact He.free_ok X G (c.fact 28 (f := .free "tuple") rfl)
    · exact He.free_ok X G (c.fact 29 (f := .free "list") rfl)
    · exact He.free_ok X G (c.fact 30 (f := .free "int") rfl)
    · exact He.free_ok X G (c.fact 31 (f := .free "str") rfl)
    · exact He.free_ok X G (c.fact 32 (f := .free "bool") rfl)
    · exact He.free_ok X G (c.fact 33 (f := .free "range") rfl)
    · exact He.free_ok X G (c.fact 34 (f := .free "isinstance") rfl)
    · exact He.free_ok X G (c.fact 35 (f := .free "dict") rfl)
    · exact He.free_ok X G (c.fact 36 (f := .free "set") rfl)
  have n_LETTERS : ∀ (j : Nat) (base : Heap), NeedOk j P w K mg base (.gl "LETTERS" (.str [97, 98, 99, 100])) := fun _ _ => need_strg _ (He.str_ok X G (c.fact 37 (f := .str "LETTERS" "abcd") rfl)) (by decide +kernel)
  have n_MOST : ∀ (j : Nat) (base : Heap), NeedOk j P w K mg base (.gl "MOST" (.int 60)) := fun _ _ => need_intg _ (He.int_ok X G (c.fact 38 (f := .int "MOST" 60) rfl))
  have e := hfa.symm.trans g_law
  cases e
  have b := FunD.bindsA (ps := ["script"]) D_law fun _ _ _ _ _ _ us hl => match us, hl with | [_], _ => rfl
  refine ⟨fd_law, fun s v => b s [v] rfl, fun base _ _ => ?_⟩
  have h_is_whole : HasF 1 P w K mg base "is_whole" 1 F_is_whole false := has_of D_is_whole g_is_whole (FunD.bindsN (ps := ["value"]) D_is_whole fun _ _ _ _ _ _ us hl => match us, hl with | [_], _ => rfl) sc_is_whole blt ok_is_whole trivial rfl (by decide)
  have h_is_from : HasF 2 P w K mg base "is_from" 3 F_is_from false := has_of D_is_from g_is_from (FunD.bindsN (ps := ["value", "low", "high"]) D_is_from fun _ _ _ _ _ _ us hl => match us, hl with | [_, _, _], _ => rfl) sc_is_from blt ok_is_from ⟨h_is_whole, trivial⟩ rfl (by decide)
  have h_is_named : HasF 1 P w K mg base "is_named" 3 F_is_named false := has_of D_is_named g_is_named (FunD.bindsN (ps := ["value", "word", "size"]) D_is_named fun _ _ _ _ _ _ us hl => match us, hl with | [_, _, _], _ => rfl) sc_is_named blt ok_is_named trivial rfl (by decide)
  have h_is_word : HasF 1 P w K mg base "is_word" 1 F_is_word false := has_of D_is_word g_is_word (FunD.bindsN (ps := ["value"]) D_is_word fun _ _ _ _ _ _ us hl => match us, hl with | [_], _ => rfl) sc_is_word blt ok_is_word ⟨n_MOST _ _, n_LETTERS _ _, trivial⟩ rfl (by decide)
  have h_common : HasF 1 P w K mg base "common" 2 F_common false := has_of D_common g_common (FunD.bindsN (ps := ["a", "b"]) D_common fun _ _ _ _ _ _ us hl => match us, hl with | [_, _], _ => rfl) sc_common blt ok_common trivial rfl (by decide)
  have h_borders : HasF 1 P w K mg base "borders" 1 F_borders false := has_of D_borders g_borders (FunD.bindsN (ps := ["word"]) D_borders fun _ _ _ _ _ _ us hl => match us, hl with | [_], _ => rfl) sc_borders blt ok_borders trivial rfl (by decide)
  have h_periods : HasF 2 P w K mg base "periods" 1 F_periods false := has_of D_periods g_periods (FunD.bindsN (ps := ["word"]) D_periods fun _ _ _ _ _ _ us hl => match us, hl with | [_], _ => rfl) sc_periods blt ok_periods ⟨h_borders, trivial⟩ rfl (by decide)
  have h_period : HasF 3 P w K mg base "period" 1 F_period false := has_of D_period g_period (FunD.bindsN (ps := ["word"]) D_period fun _ _ _ _ _ _ us hl => match us, hl with | [_], _ => rfl) sc_period blt ok_period ⟨h_periods, trivial⟩ rfl (by decide)
  have h_two_paper : HasF 2 P w K mg base "two_paper" 3 F_two_paper false := has_of D_two_paper g_two_paper (FunD.bindsN (ps := ["p", "q", "n"]) D_two_paper fun _ _ _ _ _ _ us hl => match us, hl with | [_, _, _], _ => rfl) sc_two_paper blt ok_two_paper ⟨h_common, trivial⟩ rfl (by decide)
  have h_has_period : HasF 1 P w K mg base "has_period" 2 F_has_period false := has_of D_has_period g_has_period (FunD.bindsN (ps := ["word", "p"]) D_has_period fun _ _ _ _ _ _ us hl => match us, hl with | [_, _], _ => rfl) sc_has_period blt ok_has_period trivial rfl (by decide)
  have h_root : HasF 1 P w K mg base "root" 1 F_root false := has_of D_root g_root (FunD.bindsN (ps := ["word"]) D_root fun _ _ _ _ _ _ us hl => match us, hl with | [_], _ => rfl) sc_root blt ok_root trivial rfl (by decide)
  have h_together_paper : HasF 2 P w K mg base "together_paper" 2 F_together_paper false := has_of D_together_paper g_together_paper (FunD.bindsN (ps := ["one", "two"]) D_together_paper fun _ _ _ _ _ _ us hl => match us, hl with | [_, _], _ => rfl) sc_together_paper blt ok_together_paper ⟨h_root, trivial⟩ rfl (by decide)
  have h_between_paper : HasF 1 P w K mg base "between_paper" 3 F_between_paper false := has_of D_between_paper g_between_paper (FunD.bindsN (ps := ["one", "two", "mid"]) D_between_paper fun _ _ _ _ _ _ us hl => match us, hl with | [_, _, _], _ => rfl) sc_between_paper blt ok_between_paper trivial rfl (by decide)
  have h_check_between : HasF 3 P w K mg base "check_between" 4 F_check_between false := has_of D_check_between g_check_between (FunD.bindsN (ps := ["one", "two", "mid", "value"]) D_check_between fun _ _ _ _ _ _ us hl => match us, hl with | [_, _, _, _], _ => rfl) sc_check_between blt ok_check_between ⟨HasF.mono h_is_named (by decide), HasF.mono h_is_named (by decide), HasF.mono h_is_named (by decide), h_is_from, HasF.mono h_is_named (by decide), HasF.mono h_is_word (by decide), HasF.mono h_is_word (by decide), h_is_from, trivial⟩ rfl (by decide)
  have h__law_cell := fn_cell (P := P) (w := w) (K := K) (mg := mg) (base := base) D__law_cell sc__law_cell blt (by decide +kernel) (by decide +kernel)
  have h__law_draws : HasF 1 P w K mg base "_law_draws" 2 F__law_draws false := has_of D__law_draws g__law_draws (FunD.bindsN (ps := ["cell", "amount"]) D__law_draws fun _ _ _ _ _ _ us hl => match us, hl with | [_, _], _ => rfl) sc__law_draws blt ok__law_draws trivial rfl (by decide)
  have h__law_pool := fn_pool (P := P) (w := w) (K := K) (mg := mg) (base := base) (j := 1) D__law_pool sc__law_pool blt (by decide +kernel) (by decide +kernel) hD (FnOk.mono h__law_cell (by decide)) g__law_cell D__law_cell.kp (FunD.bindsN (ps := ["script", "k"]) D__law_cell fun _ _ _ _ _ _ us hl => match us, hl with | [_, _], _ => rfl) h__law_draws
  have h__law_pick : HasF 1 P w K mg base "_law_pick" 1 F__law_pick true := ⟨_, _, _, g__law_pick, D__law_pick.kp, fn_pick (P := P) (w := w) (K := K) (mg := mg) (base := base) D__law_pick sc__law_pick blt (by decide +kernel) (by decide +kernel), FunD.bindsN (ps := ["pool", "amount"]) D__law_pick fun _ _ _ _ _ _ us hl => match us, hl with | [_, _], _ => rfl⟩
  have h__law_drawn : HasF 2 P w K mg base "_law_drawn" 3 F__law_drawn true := has_of D__law_drawn g__law_drawn (FunD.bindsN (ps := ["pool", "low", "most", "size"]) D__law_drawn fun _ _ _ _ _ _ us hl => match us, hl with | [_, _, _, _], _ => rfl) sc__law_drawn blt ok__law_drawn ⟨h__law_pick, h__law_pick, h__law_pick, h__law_pick, trivial⟩ rfl (by decide)
  exact fn_law (k := 3) D_law sc_law blt rfl rfl (by decide +kernel) (by decide +kernel) (FnOk.mono h__law_pool (by decide)) g__law_pool D__law_pool.kp (FunD.bindsN (ps := ["script"]) D__law_pool fun _ _ _ _ _ _ us hl => match us, hl with | [_], _ => rfl) ok_law (AllN.mem (l := needSs b_law) ⟨HasF.mono h__law_drawn (by decide), HasF.mono h__law_drawn (by decide), HasF.mono h__law_pick (by decide), HasF.mono h__law_drawn (by decide), HasF.mono h__law_pick (by decide), HasF.mono h__law_pick (by decide), HasF.mono h_common (by decide), HasF.mono h_together_paper (by decide), HasF.mono h_root (by decide), HasF.mono h_root (by decide), HasF.mono h__law_pick (by decide), HasF.mono h__law_pick (by decide), HasF.mono h__law_pick (by decide), HasF.mono h_two_paper (by decide), HasF.mono h_common (by decide), HasF.mono h_has_period (by decide), HasF.mono h_has_period (by decide), HasF.mono h_has_period (by decide), HasF.mono h__law_drawn (by decide), HasF.mono h_periods (by decide), HasF.mono h_common (by decide), HasF.mono h_common (by decide), HasF.mono h_between_paper (by decide), HasF.mono h_period (by decide), HasF.mono h_period (by decide), HasF.mono h_between_paper (by decide), HasF.mono h_check_between (by decide), trivial⟩) hG
def loose : List PySem.Str := (["LETTERS", "MOST", "is_whole", "is_from", "is_named", "is_word", "common", "borders", "periods", "period", "two_paper", "has_period", "root", "together_paper", "between_paper", "check_between", "_law_cell", "_law_draws", "_law_pool", "_law_pick", "_law_drawn"] : List PySem.Str)
abbrev R : PySem.W.OpenRow := PySem.W.OpenLaw.row PySem.Challenge.rw_wordwright_k28_whole_periods_and_powers
abbrev hk : PySem.W.Hook := He.hookD 4 fa fn
def ob (s : PySem.W.SharedT) : He.AlD := He.obsDG 4 fa fn (HandSHeadRun.getT s)
theorem ob_eq (s : PySem.W.SharedT) : ob s = hk.obs s.abs := He.obsDG_eq (HandSHeadRun.getT_eq s)
theorem run (w : World) : HandSHeadRun.RunEq R (PySem.W.view R.prog [25]) hk ob 1960 loose w := by
  intro os
  kernel_rfl
end Q28
open PySem PySem.W PySem.Calls PyProof.Rows
theorem PySem.Challenge.cw_wordwright_k28_whole_periods_and_powers_holds : PySem.Challenge.rw_wordwright_k28_whole_periods_and_powers.Holds := by
  w_on; o_law
  refine HandSHeadRun.head_any (r := OpenLaw.row PySem.Challenge.rw_wordwright_k28_whole_periods_and_powers) (q := view (OpenLaw.row PySem.Challenge.rw_wordwright_k28_whole_periods_and_powers).prog [25]) (H := Q28.hk) (ob := Q28.ob) (M := 1960) (loose := Q28.loose) (d := HandSHeadRun.topDef (OpenLaw.row PySem.Challenge.rw_wordwright_k28_whole_periods_and_powers).prog 25) (kwd := []) Q28.ob_eq
    (by kernel_rfl) (fun s => by kernel_rfl) Q28.run (by kernel_rfl) (by kernel_rfl) (by kernel_rfl) (by rfl) (by first | assumption | decide +kernel) (by decide +kernel) ⟨rfl, rfl, rfl, rfl, rfl, by decide +kernel⟩ ?hw ?hc
  case hw => w_witness2
  case hc =>
    refine L2.walk_ofE (l := PySem.Challenge.rw_wordwright_k28_whole_periods_and_powers) (n := 63) (k := 4) (x := "script") (CX := L2.CX0) rfl (by decide) (by kernel_rfl) ⟨rfl, by decide, by decide⟩ ?F (fun _ _ _ _ z => z)
    intro w mg fa h Y G hmg0
    obtain ⟨K, KX, c⟩ := Y
    have hmg : mg ("law" : PySem.Str) = some (.ref fa) := by
      have e : (HandSHeadRun.topDef (OpenLaw.row PySem.Challenge.rw_wordwright_k28_whole_periods_and_powers).prog 25).name = ("law" : PySem.Str) := by kernel_rfl
      rw [← e]
      exact hmg0
    obtain ⟨fd, hb, hF⟩ := Q28.facts Pu.draws_ok Q28.law_ok (P := (PySem.Challenge.rw_wordwright_k28_whole_periods_and_powers).prog) (w := w) KX G hmg c
    exact ⟨K, fd, Pu.spLaw K, KX, hb, fun H a ns hl _ hS => ⟨a, ns, rfl, hS, Nat.le_trans hl (by decide), fun _ => rfl⟩, hF⟩
