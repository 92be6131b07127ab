import PyProof.Rows.All
import Wide.All
import OpenK.AllK
import Wide.FinOn
import HandS.ForMost
import HandS.Walk
import HandS.Deep
import HandS.Style
import HandS.TupLe
import KE.SortData
import HandS.Nested
import HandS.TupAny
import HandS.Conv
import HandS.Rev
import HandS.CallSlots
import HandS.ForExc
import HandS.IsInst
import KE.KIndexOf
import HandS.More
import HandS.Zip
import KE.GoesMore
import HandS.WordsExc
import HandS.EndOwn
import PySem.Challenge.RW_passedpairs_k06_whole_orders_and_races_o
set_option Elab.async false
set_option linter.all false
set_option maxRecDepth 100000
set_option maxHeartbeats 4000000
namespace QQ
open PySem

abbrev D := PyData

/-! ### data -/
mutual
/-- no list, no dict within -/
def lf : D → Bool
  | .none => true
  | .bool _ => true
  | .int _ => true
  | .str _ => true
  | .list _ => false
  | .tuple xs => lfs xs
  | .dict _ => false
def lfs : List D → Bool
  | [] => true
  | x :: xs => lf x && lfs xs
end
mutual
/-- no lambda within, no script -/
def nl : D → Bool
  | .list xs => nls xs
  | .tuple xs => nls xs
  | .dict kvs => match kvs with
    | [] => true
    | _ :: _ => false
  | .none => true
  | .bool _ => true
  | .int _ => true
  | .str _ => true
def nls : List D → Bool
  | [] => true
  | x :: xs => nl x && nls xs
end
/-- to the depth n all lists may be ours; below it there is none -/
def full : Nat → D → Bool
  | 0, d => lf d
  | n + 1, .list xs => xs.all (full n)
  | _ + 1, d => lf d
/-- a def as a value; a lambda with what it captured -/
def fnD (f : Nat) : D := .dict [(.none, .int f)]
def loD (l : Nat) (vs : List D) : D := .dict [(.none, .int l), (.none, .tuple vs)]

/-- who owns what a value is made of: the value itself to the depth n; or the slot i, to the depth m (it is read alone; w: it is the slot's whole value) -/
inductive Kd where
  | own (n : Nat)
  | root (i m : Nat) (w : Bool)
  deriving DecidableEq, Repr
abbrev Sl := Option (D × Nat)
abbrev En := List Sl

inductive Out (α : Type) where
  | ok (a : α) (e : En)
  | exc (x : D) (e : En)
  | stuck
def Out.bind {α β : Type} : Out α → (α → En → Out β) → Out β
  | .ok a e, f => f a e
  | .exc x e, _ => .exc x e
  | .stuck, _ => .stuck
@[simp] theorem Out.bind_ok {α β : Type} (a : α) (e : En) (f : α → En → Out β) : (Out.ok a e).bind f = f a e := Eq.trans rfl rfl
@[simp] theorem Out.bind_exc {α β : Type} (x : D) (e : En) (f : α → En → Out β) : (Out.exc x e).bind f = .exc x e := Eq.trans rfl rfl
@[simp] theorem Out.bind_stuck {α β : Type} (f : α → En → Out β) : (Out.stuck : Out α).bind f = .stuck := Eq.trans rfl rfl
/-- what a call gives: the value, its own depth, the lists that were handed over to be changed -/
inductive CO where
  | ret (d : D) (k : Nat) (ios : List D)
  | exc (x : D) (ios : List D)
  | stuck

/-! ### the syntax -/
inductive BO where
  | add | sub | mul | fdiv | mod | pow | band | bor | bxor | shl | shr
  deriving DecidableEq, Repr
inductive CP where
  | eq | ne | lt | le | gt | ge | isin | notin
  deriving DecidableEq, Repr
inductive BI where
  | len | int | abs | min2 | max2 | minl | maxl | sum | any | all | tuple | list | sorted | divmod | str | isi (t : String)
  deriving DecidableEq, Repr
inductive MT where
  | index | count | get1 | get2
  deriving DecidableEq, Repr
inductive MU where
  | append | pop | popAt | extend | insert
  deriving DecidableEq, Repr
/-- a name or a row of names -/
inductive Pat where
  | nm (i : Nat)
  | tp (is : List Pat)
mutual
inductive E where
  | cst (d : D)
  | var (i : Nat) | mv (i : Nat) | bw (i : Nat)
  | gl (g : Nat)
  | fnv (f : Nat)
  | bin (o : BO) (a b : E)
  | neg (a : E)
  | not_ (a : E)
  | cmp (o : CP) (a b : E)
  | isc (ng : Bool) (a : E) (d : D)
  | ch2 (o p : CP) (a b c : E)
  | ch3 (o p q : CP) (a b c d : E)
  | and_ (a : E) (es : EL) | or_ (a : E) (es : EL)
  | ite (c a b : E)
  | tup (es : EL) | lst (k : Nat) (es : EL) | dic0
  | ix (a b : E)
  | sl (a : E) (lo hi : OE)
  | rev (a : E)
  | call (f : Nat) (io : List Nat) (es : EL) (ks : List Nat)
  | calv (i : Nat) (es : EL)
  | bi (b : BI) (es : EL)
  | rngl (tp : Bool) (es : EL)
  | mt (m : MT) (a : E) (es : EL)
  | mu (m : MU) (i : Nat) (es : EL)
  | lc (k : Nat) (own : List (Nat)) (g : Pat) (it : IT) (ifs : EL) (elt : E)
  | lc2 (k : Nat) (own : List (Nat)) (g : Pat) (it : IT) (ifs : EL) (own1 : List Nat) (g1 : Pat) (it1 : IT) (ifs1 : EL) (elt : E)
  | lam (l : Nat) (cs : List Nat)
  | callL (f : Nat) (es : EL) (l : Nat) (cs : List Nat)
  | stk
inductive EL where
  | nil
  | cons (e : E) (es : EL)
inductive OE where
  | none
  | some (e : E)
/-- what is walked -/
inductive IT where
  | seq (e : E)
  | rng (es : EL)
  | enum (e : E)
  | zip (a b : E)
end
inductive LV where
  | nm (i : Nat)
  | sub (i : Nat) (p : EL)
mutual
inductive S where
  | asg (g : Pat) (e : E)
  | asgm (ts : List LV) (e : E)
  | set (i : Nat) (p : EL) (e : E)
  | par (is : List Nat) (es : EL)
  | aug (i : Nat) (o : BO) (e : E)
  | ex (e : E)
  | ret (e : E)
  | retN
  | ite (c : E) (a b : SL)
  | for_ (g : Pat) (it : IT) (body : SL)
  | whl (c : E) (body : SL)
  | pass
  | stk
inductive SL where
  | nil
  | cons (s : S) (r : SL)
end
end QQ

/-! ### the operations on data -/
namespace QQ
open PySem

abbrev LIM : Nat := 16777216
/-- what == may be asked of -/
abbrev shp (d : D) : Bool := PySem.SeqAt.shaped d
/-- a < b, of data of one shape -/
def ltOk (a b : D) : Bool := shp a && shp b && PySem.W.alike a b && (match a with | .none => false | _ => true)
def ltD (a b : D) : Bool := PySem.W.dataLt a b

def binD : BO → D → D → Option D
  | .add, .int i, .int j => some (.int (i + j))
  | .add, .str x, .str y => if x.length + y.length ≤ LIM then some (.str (x ++ y)) else none
  | .add, .list xs, .list ys => if xs.length + ys.length ≤ LIM then some (.list (xs ++ ys)) else none
  | .add, .tuple xs, .tuple ys => if xs.length + ys.length ≤ LIM then some (.tuple (xs ++ ys)) else none
  | .sub, .int i, .int j => some (.int (i - j))
  | .mul, .int i, .int j => if (decide (-(2 ^ 64) < i) && decide (i < 2 ^ 64)) || (decide (-(2 ^ 64) < j) && decide (j < 2 ^ 64)) then some (.int (i * j)) else none
  | .mul, .list xs, .int k => if decide (-(2 ^ 62) < k) && decide (k < 2 ^ 62) && decide (xs.length * k.toNat ≤ LIM) && lfs xs then some (.list (List.replicate k.toNat xs).flatten) else none
  | .fdiv, .int i, .int j => if decide (0 < j) && decide (j < 1073741824) then some (.int (i / j)) else none
  | .mod, .int i, .int j => if decide (0 < j) then some (.int (i % j)) else none
  | .pow, .int i, .int j => if decide (0 ≤ j) && decide (j ≤ 1000000) && decide (i.natAbs < 2 ^ 64) then some (.int (i ^ j.toNat)) else none
  | .shl, .int i, .int j => if decide (0 ≤ j) && decide (j ≤ 1000000) && decide (i.natAbs < 2 ^ 64) then some (.int (i * 2 ^ j.toNat)) else none
  | .shr, .int i, .int j => if decide (0 ≤ j) then some (.int (i / 2 ^ j.toNat)) else none
  | .band, .int i, .int j => some (.int (Builtin.bitAnd i j))
  | .bor, .int i, .int j => some (.int (Builtin.bitOr i j))
  | .bxor, .int i, .int j => some (.int (Builtin.bitXor i j))
  | _, _, _ => none

/-- x in a row of data -/
def memD (x : D) (ys : List D) : Bool := ys.any fun y => PyData.eqv y x
/-- a < b, where it is plain: whole numbers, texts, tuples of whole numbers -/
def intsD : List D → Option (List Int)
  | [] => some []
  | .int i :: r => (intsD r).map (i :: ·)
  | _ :: _ => none
def ordF : D → D → Option Bool
  | .int i, .int j => some (decide (i < j))
  | .str x, .str y => some (decide (x.cps.toList < y.cps.toList))
  | .tuple xs, .tuple ys => match intsD xs, intsD ys with
    | some ns, some ms => some (HT.lexLt ns ms)
    | _, _ => none
  | _, _ => none
def cmpD : CP → D → D → Option Bool
  | .eq, a, b => if shp a && shp b then some (PyData.eqv a b) else none
  | .ne, a, b => if shp a && shp b then some (!PyData.eqv a b) else none
  | .lt, a, b => match ordF a b with
    | some r => some r
    | none => if ltOk a b then some (ltD a b) else none
  | .gt, a, b => ordF b a
  | .le, a, b => (ordF b a).map not
  | .ge, a, b => (ordF a b).map not
  | .isin, x, .list ys => if shp x && shp (.list ys) then some (memD x ys) else none
  | .isin, x, .tuple ys => if shp x && shp (.tuple ys) then some (memD x ys) else none
  | .isin, .str x, .str y => some (!(Builtin.Str.occurrences y x 0 y.length 1).isEmpty)
  | .notin, x, .list ys => if shp x && shp (.list ys) then some (!memD x ys) else none
  | .notin, x, .tuple ys => if shp x && shp (.tuple ys) then some (!memD x ys) else none
  | .notin, .str x, .str y => some (!(!(Builtin.Str.occurrences y x 0 y.length 1).isEmpty))
  | _, _, _ => none
/-- is None, is True, is False -/
def isD : D → D → Option Bool
  | .none, .none => some true
  | .bool a, .bool b => some (decide (a = b))
  | .none, .bool _ => some false
  | .int _, .none => some false
  | .bool _, .none => some false
  | .str _, .none => some false
  | .tuple _, .none => some false
  | .list _, .none => some false
  | .dict [], .none => some false
  | .int _, .bool _ => some false
  | .str _, .bool _ => some false
  | .tuple _, .bool _ => some false
  | .list _, .bool _ => some false
  | .dict [], .bool _ => some false
  | _, _ => none

/-- the place that an index of any sign means -/
def ixD {α : Type} (xs : List α) (i : Int) : Option α := L2.atI xs i
/-- the script: a list that is read alone -/
def scrD (ds : List D) : D := .dict [(.bool false, .list ds)]
def getD : D → D → Option D
  | .dict [(.bool false, .list xs)], .int i => ixD xs i
  | .list xs, .int i => ixD xs i
  | .tuple xs, .int i => ixD xs i
  | .str x, .int i => if x.length ≤ LIM then (ixD x.cps.toList i).map fun c => .str ⟨#[c]⟩ else none
  | _, _ => none
def cutL {α : Type} (xs : List α) (lo hi : Option Int) : List α := (xs.drop (HT.sIx xs.length 0 lo)).take (HT.sIx xs.length xs.length hi - HT.sIx xs.length 0 lo)
def sliceD : D → Option Int → Option Int → Option D
  | .list xs, lo, hi => some (.list (cutL xs lo hi))
  | .tuple xs, lo, hi => some (.tuple (cutL xs lo hi))
  | .dict [(.bool false, .list xs)], lo, hi => some (.list (cutL xs lo hi))
  | _, _, _ => none
def revD : D → Option D
  | .list xs => some (.list xs.reverse)
  | .tuple xs => some (.tuple xs.reverse)
  | _ => none

/-- isinstance by the class's name -/
def tyName : D → Option String
  | .none => some "NoneType"
  | .bool _ => some "bool"
  | .int _ => some "int"
  | .str _ => some "str"
  | .list _ => some "list"
  | .tuple _ => some "tuple"
  | .dict [] => some "dict"
  | .dict _ => none
def isTy (d : D) (t : String) : Option Bool := match tyName d with
  | some a => if t ∈ ["int", "bool", "str", "list", "tuple", "dict"] then some (a == t || (a == "bool" && t == "int")) else none
  | none => none
def boolsD : List D → Option (List Bool)
  | [] => some []
  | .bool b :: r => (boolsD r).map (b :: ·)
  | _ :: _ => none
def sortOk (xs : List D) : Bool :=
  xs.all (fun a => xs.all fun b => PySem.W.alike a b) && xs.all shp && lfs xs &&
    (xs.all (fun a => match a with | .tuple (_ :: _) => true | _ => false) || xs.all (fun a => match a with | .tuple _ => false | .none => false | _ => true))
def sortD (xs : List D) : List D := xs.mergeSort fun a b => !ltD b a
def maxL : Int → List Int → Int
  | m, [] => m
  | m, x :: r => maxL (if x > m then x else m) r
def minL : Int → List Int → Int
  | m, [] => m
  | m, x :: r => minL (if x < m then x else m) r
/-- a built-in's answer -/
def lenD : List D → Option D
  | [.list xs] => some (.int xs.length)
  | [.dict [(.bool false, .list xs)]] => some (.int xs.length)
  | [.tuple xs] => some (.int xs.length)
  | [.str x] => if x.length ≤ LIM then some (.int x.length) else none
  | _ => none
def intC : List D → Option D
  | [.int i] => some (.int i)
  | [.bool b] => some (.int (if b then 1 else 0))
  | _ => none
def absD : List D → Option D
  | [.int i] => some (.int (if i < 0 then -i else i))
  | _ => none
def max2D : List D → Option D
  | [.int i, .int j] => some (.int (if j > i then j else i))
  | _ => none
def min2D : List D → Option D
  | [.int i, .int j] => some (.int (if j < i then j else i))
  | _ => none
def maxlD : List D → Option D
  | [.list xs] => (intsD xs).bind fun ns => match ns with | [] => none | n :: r => some (.int (maxL n r))
  | _ => none
def minlD : List D → Option D
  | [.list xs] => (intsD xs).bind fun ns => match ns with | [] => none | n :: r => some (.int (minL n r))
  | _ => none
def sumD : List D → Option D
  | [.list xs] => (intsD xs).map fun ns => .int ns.sum
  | _ => none
def anyD : List D → Option D
  | [.list xs] => (boolsD xs).map fun bs => .bool (bs.any id)
  | _ => none
def allD : List D → Option D
  | [.list xs] => (boolsD xs).map fun bs => .bool (bs.all id)
  | _ => none
def tupC : List D → Option D
  | [.list xs] => some (.tuple xs)
  | [.tuple xs] => some (.tuple xs)
  | _ => none
def lstC : List D → Option D
  | [.list xs] => some (.list xs)
  | [.tuple xs] => some (.list xs)
  | _ => none
def srtC : List D → Option D
  | [.list xs] => if sortOk xs then some (.list (sortD xs)) else none
  | _ => none
def dmD : List D → Option D
  | [.int i, .int j] => if decide (0 < j) && decide (j < 1073741824) then some (.tuple [.int (i / j), .int (i % j)]) else none
  | _ => none
def strC : List D → Option D
  | [.int i] => if i.natAbs.log2 < 1920 then some (.str (toString i)) else none
  | _ => none
def isiD (t : String) : List D → Option D
  | [d] => (isTy d t).map fun b => .bool b
  | _ => none
def biD : BI → List D → Option D
  | .len => lenD | .int => intC | .abs => absD | .max2 => max2D | .min2 => min2D | .maxl => maxlD | .minl => minlD | .sum => sumD | .any => anyD | .all => allD
  | .tuple => tupC | .list => lstC | .sorted => srtC | .divmod => dmD | .str => strC | .isi t => isiD t
def rangeD : List D → Option (List D)
  | [.int j] => if decide (-(2 ^ 62) ≤ j) && decide (j < 2 ^ 62) && decide (j.toNat ≤ LIM) then some ((List.range j.toNat).map fun (k : Nat) => .int k) else none
  | [.int i, .int j] => if decide (-(2 ^ 62) ≤ i) && decide (i < 2 ^ 62) && decide (-(2 ^ 62) ≤ j) && decide (j < 2 ^ 62) && decide ((j - i).toNat ≤ LIM) then some ((List.range (j - i).toNat).map fun (k : Nat) => .int (i + k)) else none
  | _ => none
/-- a method that changes nothing -/
def mtD : MT → D → List D → Option D
  | .index, .list xs, [.int i] => (intsD xs).bind fun ns => if i ∈ ns then some (.int (ns.idxOf i)) else none
  | .index, .tuple xs, [.int i] => (intsD xs).bind fun ns => if i ∈ ns then some (.int (ns.idxOf i)) else none
  | _, _, _ => none
/-- a method that changes the list: its answer, the list behind it -/
def muD : MU → D → List D → Option (D × D)
  | .append, .list xs, [d] => if xs.length < LIM then some (.none, .list (xs ++ [d])) else none
  | .extend, .list xs, [.list ys] => if xs.length + ys.length ≤ LIM then some (.none, .list (xs ++ ys)) else none
  | .pop, .list xs, [] => (xs[xs.length - 1]?).map fun d => (d, .list xs.dropLast)
  | .popAt, .list xs, [.int i] => if decide (0 ≤ i) && decide (i < 2 ^ 62) then (xs[i.toNat]?).map fun d => (d, .list (xs.eraseIdx i.toNat)) else none
  | .insert, .list xs, [.int i, d] => if decide (0 ≤ i) && decide (i < 2 ^ 62) && decide (xs.length < LIM) then some (.none, .list (xs.take i.toNat ++ [d] ++ xs.drop i.toNat)) else none
  | _, _, _ => none
/-- x[i] = v -/
def setD : D → D → D → Option D
  | .list xs, .int i, v => (L2.ixN xs.length i).bind fun j => if j < xs.length then some (.list (xs.set j v)) else none
  | _, _, _ => none
/-- x[i][j].. = v -/
def setP : D → List D → D → Option D
  | _, [], _ => none
  | d, [i], v => setD d i v
  | d, i :: is, v => (getD d i).bind fun e => (setP e is v).bind fun e' => setD d i e'

/-! ### slots -/
/-- the flag of a value that is stored: lists alone are owned -/
def flagOf (d : D) (n : Nat) : Nat := match d with
  | .list _ => n
  | .dict _ => n
  | _ => 0
def rdVar (i : Nat) (en : En) : Out (D × Kd) := match en[i]? with
  | some (some (d, 0)) => .ok (d, .own 0) en
  | some (some (d, _ + 1)) => .ok (d, .own 0) (en.set i (some (d, 0)))
  | _ => .stuck
def rdMv (i : Nat) (en : En) : Out (D × Kd) := match en[i]? with
  | some (some (d, n)) => .ok (d, .own n) (en.set i none)
  | _ => .stuck
def rdBw (i : Nat) (en : En) : Out (D × Kd) := match en[i]? with
  | some (some (d, 0)) => .ok (d, .own 0) en
  | some (some (d, n + 1)) => .ok (d, .root i (n + 1) true) en
  | _ => .stuck
def depthAt (en : En) (i : Nat) : Nat := match en[i]? with
  | some (some (_, n)) => n
  | _ => 0
/-- the items of a value may stand in a new one: nobody owns them, or there is nothing to own -/
def itemsOk (r : D × Kd) : Bool := match r.2 with
  | .own _ => true
  | .root _ m _ => match r.1 with
    | .list xs => decide (m ≤ 1) || lfs xs
    | d => lf d
/-- a value to be kept: not a slot's own -/
def keepK (r : D × Kd) : Option Nat := match r.2 with
  | .own n => some n
  | .root _ _ _ => if lf r.1 then some 0 else none
/-- an item of a value -/
def itemK (r : D × Kd) (d : D) : Kd := match r.2 with
  | .own _ => .own 0
  | .root i m _ => if lf d then .own 0 else match r.1 with
    | .list _ => if m ≤ 1 then .own 0 else .root i (m - 1) false
    | _ => .root i m false

mutual
def ptL : Pat → List Nat
  | .nm i => [i]
  | .tp ps => ptLs ps
def ptLs : List Pat → List Nat
  | [] => []
  | p :: ps => ptL p ++ ptLs ps
end
/-! ### what is changed by an expression -/
mutual
def muE : E → List Nat
  | .mv i => [i]
  | .bin _ a b => muE a ++ muE b
  | .neg a => muE a
  | .not_ a => muE a
  | .cmp _ a b => muE a ++ muE b
  | .isc _ a _ => muE a
  | .ch2 _ _ a b c => muE a ++ muE b ++ muE c
  | .ch3 _ _ _ a b c d => muE a ++ muE b ++ muE c ++ muE d
  | .and_ a es => muE a ++ muL es
  | .or_ a es => muE a ++ muL es
  | .ite c a b => muE c ++ muE a ++ muE b
  | .tup es => muL es
  | .lst _ es => muL es
  | .ix a b => muE a ++ muE b
  | .sl a lo hi => muE a ++ muO lo ++ muO hi
  | .rev a => muE a
  | .call _ io es _ => muL es ++ ioBl io es
  | .calv _ es => muL es
  | .callL _ es _ _ => muL es
  | .bi _ es => muL es
  | .rngl _ es => muL es
  | .mt _ a es => muE a ++ muL es
  | .mu _ i es => i :: muL es
  | .lc _ own _ it ifs elt => muI it ++ own ++ muL ifs ++ muE elt
  | .lc2 _ own _ it ifs _ _ it1 ifs1 elt => muI it ++ own ++ muL ifs ++ muI it1 ++ muL ifs1 ++ muE elt
  | _ => []
def muL : EL → List Nat
  | .nil => []
  | .cons e es => muE e ++ muL es
def muO : OE → List Nat
  | .none => []
  | .some e => muE e
def muI : IT → List Nat
  | .seq e => muE e
  | .rng es => muL es
  | .enum e => muE e
  | .zip a b => muE a ++ muE b
/-- the slots that are handed over to be changed (every slot that is named in a call that changes one) -/
def ioBl : List Nat → EL → List Nat
  | [], _ => []
  | _ :: _, es => bwL es
def bwL : EL → List Nat
  | .nil => []
  | .cons (.bw i) es => i :: bwL es
  | .cons _ es => bwL es
end
end QQ

/-! ### the evaluator -/
namespace QQ
open PySem

/-- what is around: the defs, the lambdas, the module's constants -/
structure Orc where
  fn : Nat → List D → CO
  lam : Nat → List D → List D → CO
  fnv : Nat → Option (List D → CO)
  gl : Nat → Option D

def okD (o : Option D) (en : En) : Out (D × Kd) := match o with
  | some d => .ok (d, .own 0) en
  | none => .stuck
def okB (o : Option Bool) (en : En) : Out (D × Kd) := match o with
  | some b => .ok (.bool b, .own 0) en
  | none => .stuck
/-- an earlier value stays as it is while others are asked -/
def pend (r : D × Kd) (mu : List Nat) : Bool := match r.2 with
  | .own _ => true
  | .root i _ w => !mu.contains i || (lf r.1 && !w)
mutual
def bindP : Pat → D → En → Option En
  | .nm i, d, en => if i < en.length then some (en.set i (some (d, 0))) else none
  | .tp ps, d, en => match d with
    | .tuple ds => bindPs ps ds en
    | _ => none
def bindPs : List Pat → List D → En → Option En
  | [], ds, en => match ds with
    | [] => some en
    | _ :: _ => none
  | p :: ps, ds, en => match ds with
    | d :: ds => (bindP p d en).bind fun e1 => bindPs ps ds e1
    | [] => none
end
def wipeE (en : En) : List Nat → En
  | [] => en
  | i :: is => (wipeE en is).set i none
/-- the values of a call in the parameters' order -/
def permL {α : Type} (ks : List Nat) (xs : List α) : List α := if ks.isEmpty then xs else (List.range xs.length).filterMap fun p => xs[ks.idxOf p]?
def dsOf (rs : List (D × Kd)) : List D := rs.map Prod.fst
/-- the slots behind the arguments that are handed over (to the depths ns); none: a new list -/
def argJs (en : En) (bl : List Nat) : List Nat → List (D × Kd) → Option (List (Option Nat))
  | [], _ => some []
  | _ :: _, [] => none
  | 0 :: ns, _ :: rs => argJs en bl ns rs
  | (n + 1) :: ns, (d, k) :: rs => if full (n + 1) d then match k with
      | .root i m w => if w && decide (m = n + 1) && decide (depthAt en i = n + 1) && bl.contains i then (argJs en bl ns rs).map (some i :: ·) else none
      | .own m => if m = n + 1 then (argJs en bl ns rs).map (none :: ·) else none
    else none
def jsOf (js : List (Option Nat)) : List Nat := js.filterMap id
/-- the other arguments: nothing of what is handed over -/
def argsOk (js : List Nat) : List Nat → List (D × Kd) → Bool
  | _, [] => true
  | [], (d, k) :: rs => (match k with
      | .root i _ _ => lf d || !js.contains i
      | .own _ => true) && argsOk js [] rs
  | 0 :: ns, (d, k) :: rs => (match k with
      | .root i _ _ => lf d || !js.contains i
      | .own _ => true) && argsOk js ns rs
  | (_ + 1) :: ns, _ :: rs => argsOk js ns rs
def anyRoot : List Nat → List (D × Kd) → Bool
  | _, [] => false
  | [], (d, k) :: rs => (match k with
      | .root _ _ _ => !lf d
      | .own _ => false) || anyRoot [] rs
  | 0 :: ns, (d, k) :: rs => (match k with
      | .root _ _ _ => !lf d
      | .own _ => false) || anyRoot ns rs
  | (_ + 1) :: ns, _ :: rs => anyRoot ns rs
def setIos : List (Option Nat) → List Nat → List D → En → Option En
  | js, 0 :: ns, ds, en => setIos js ns ds en
  | [], [], [], en => some en
  | some j :: js, (n + 1) :: ns, d :: ds, en => if full (n + 1) d then setIos js ns ds (en.set j (some (d, n + 1))) else none
  | none :: js, (_ + 1) :: ns, _ :: ds, en => setIos js ns ds en
  | _, _, _, _ => none
/-- an exception's datum: its class, its one attribute, without lists -/
def excOk : D → Bool
  | .dict [(.bool true, .int _)] => true
  | .dict [(.bool true, .int _), (.str _, w)] => lf w
  | _ => false
/-- a lambda's answer: plain data -/
def lamOut : CO → CO
  | .ret d _ _ => if lf d then .ret d 0 [] else .stuck
  | _ => .stuck
/-- behind a call -/
def callD (co : List D → CO) (io bl : List Nat) (rs : List (D × Kd)) (en : En) : Out (D × Kd) := match argJs en bl io rs with
  | none => .stuck
  | some js => if argsOk (jsOf js) io rs && decide (jsOf js).Nodup then match co (dsOf rs) with
      | .ret d k ios => if anyRoot io rs && !full k d then .stuck else match setIos js io ios en with
        | some e' => .ok (d, .own k) e'
        | none => .stuck
      | .exc x ios => if excOk x then match setIos js io ios en with
        | some e' => .exc x e'
        | none => .stuck
        else .stuck
      | .stuck => .stuck
    else .stuck
def capD (en : En) : List Nat → Option (List D)
  | [] => some []
  | i :: is => match en[i]? with
    | some (some (d, _)) => if lf d then (capD en is).map (d :: ·) else none
    | _ => none
/-- the items that are walked -/
def itemsD (r : D × Kd) : Option (List D) := if itemsOk r then match r.1 with
    | .list xs => some xs
    | .tuple xs => some xs
    | _ => none
  else none
def rootsOf (r : D × Kd) : List Nat := match r.2 with
  | .own _ => []
  | .root i _ _ => [i]
def enumD (xs : List D) : List D := (List.range xs.length).filterMap fun k => xs[k]?.map fun d => .tuple [.int (k : Nat), d]
def zipD (xs ys : List D) : List D := (List.zip xs ys).map fun p => .tuple [p.1, p.2]
/-- a turn's part of a new list -/
def keepItem (k : Nat) (r : D × Kd) : Bool := lf r.1 || match r.2 with
  | .own n => decide (k ≤ n + 1)
  | .root _ _ _ => false
/-- x[i] of a value -/
def ixR (en : En) (r : D × Kd) (i : D) : Out (D × Kd) := match getD r.1 i with
  | some d => .ok (d, itemK r d) en
  | none => .stuck
def slR (en : En) (r : D × Kd) (lo hi : Option Int) : Out (D × Kd) := if itemsOk r then match sliceD r.1 lo hi with
      | some d => .ok (d, .own (flagOf d 1)) en
      | none => .stuck
    else .stuck
def partO (d : D) (en : En) : Out (Option Int) := match d with
  | .int i => .ok (some i) en
  | _ => .stuck

/-- two lists, two tuples -/
def sameSq : D → D → Bool
  | .list _, .list _ => true
  | .tuple _, .tuple _ => true
  | _, _ => false
def isSq : D → Bool
  | .list _ => true
  | .tuple _ => true
  | _ => false
def isLst (en : En) (i : Nat) : Bool := match en[i]? with
  | some (some (.list _, _)) => true
  | _ => false
/-- a part of the list that the slot owns: it may go in -/
def muIn (m : MU) (n : Nat) (r : D × Kd) : Bool := match m with
  | .extend => (n == 0 && itemsOk r) || (match r.1 with
    | .list ys => lfs ys
    | _ => false)
  | _ => keepItem (n + 1) r && (keepK r).isSome
def muR (m : MU) (i : Nat) (rs : List (D × Kd)) (e1 : En) : Out (D × Kd) := match e1[i]? with
  | some (some (d, n + 1)) => if rs.all (muIn m n) then match muD m d (dsOf rs) with
      | some (v, d') => .ok (v, .own n) (e1.set i (some (d', n + 1)))
      | none => .stuck
    else .stuck
  | _ => .stuck
/-- the loop of a comprehension: a turn gives a value, or none -/
def lcL (f : D → En → Out (Option D)) (own : List Nat) : List D → List D → En → Out (List D)
  | [], acc, en => .ok acc en
  | d :: ds, acc, en => match f d en with
    | .ok (some v) e1 => if acc.length < LIM then lcL f own ds (acc ++ [v]) (wipeE e1 own) else .stuck
    | .ok none e1 => lcL f own ds acc (wipeE e1 own)
    | _ => .stuck

/-- a turn of a comprehension -/
def lcT (k : Nat) (g : Pat) (tests : En → Out Bool) (elt : En → Out (D × Kd)) (d : D) (e : En) : Out (Option D) := match bindP g d e with
  | some e' => (tests e').bind fun b e2 => if b then (elt e2).bind fun v e3 => if keepItem k v && (keepK v).isSome then .ok (some v.1) e3 else .stuck else .ok none e2
  | none => .stuck
/-- two clauses: a turn of the first one gives the list so far with what its own loop adds -/
def lc2L (f : D → List D → En → Out (List D)) (own : List Nat) : List D → List D → En → Out (List D)
  | [], acc, en => .ok acc en
  | d :: ds, acc, en => match f d acc en with
    | .ok acc' e1 => lc2L f own ds acc' (wipeE e1 own)
    | _ => .stuck
def lc2T (g : Pat) (tests : En → Out Bool) (iti : En → Out (List D)) (own1 : List Nat) (loop : List D → List D → En → Out (List D)) (d : D) (acc : List D) (e : En) : Out (List D) := match bindP g d e with
  | some e' => (tests e').bind fun b e2 => if b then (iti e2).bind fun xs e3 => if lfs xs then loop xs acc (wipeE e3 own1) else .stuck else .ok acc e2
  | none => .stuck
mutual
def ev (C : Orc) : E → En → Out (D × Kd)
  | .cst d, en => .ok (d, .own 0) en
  | .var i, en => rdVar i en
  | .mv i, en => rdMv i en
  | .bw i, en => rdBw i en
  | .gl g, en => okD (C.gl g) en
  | .fnv f, en => .ok (fnD f, .own 0) en
  | .bin o a b, en => (ev C a en).bind fun x e1 => (ev C b e1).bind fun y e2 =>
      if pend x (muE b) && itemsOk x && itemsOk y then match binD o x.1 y.1 with
        | some d => .ok (d, .own (flagOf d 1)) e2
        | none => .stuck
      else .stuck
  | .neg a, en => (ev C a en).bind fun x e1 => match x.1 with
      | .int i => .ok (.int (-i), .own 0) e1
      | _ => .stuck
  | .not_ a, en => (ev C a en).bind fun x e1 => match x.1 with
      | .bool b => .ok (.bool (!b), .own 0) e1
      | _ => .stuck
  | .cmp o a b, en => (ev C a en).bind fun x e1 => (ev C b e1).bind fun y e2 => if pend x (muE b) then okB (cmpD o x.1 y.1) e2 else .stuck
  | .isc ng a d, en => (ev C a en).bind fun x e1 => okB ((isD x.1 d).map fun b => if ng then !b else b) e1
  | .ch2 o p a b c, en => (ev C a en).bind fun x e1 => (ev C b e1).bind fun y e2 => if pend x (muE b) then match cmpD o x.1 y.1 with
      | some true => (ev C c e2).bind fun z e3 => if pend y (muE c) then okB (cmpD p y.1 z.1) e3 else .stuck
      | some false => .ok (.bool false, .own 0) e2
      | none => .stuck
    else .stuck
  | .ch3 o p q a b c d, en => (ev C a en).bind fun x e1 => (ev C b e1).bind fun y e2 => if pend x (muE b) then match cmpD o x.1 y.1 with
      | some true => (ev C c e2).bind fun z e3 => if pend y (muE c) then match cmpD p y.1 z.1 with
          | some true => (ev C d e3).bind fun u e4 => if pend z (muE d) then okB (cmpD q z.1 u.1) e4 else .stuck
          | some false => .ok (.bool false, .own 0) e3
          | none => .stuck
        else .stuck
      | some false => .ok (.bool false, .own 0) e2
      | none => .stuck
    else .stuck
  | .and_ a es, en => (ev C a en).bind fun x e1 => match x.1 with
      | .bool true => evAnd C es e1
      | .bool false => .ok (.bool false, .own 0) e1
      | _ => .stuck
  | .or_ a es, en => (ev C a en).bind fun x e1 => match x.1 with
      | .bool true => .ok (.bool true, .own 0) e1
      | .bool false => evOr C es e1
      | _ => .stuck
  | .ite c a b, en => (ev C c en).bind fun x e1 => match x.1 with
      | .bool true => ev C a e1
      | .bool false => ev C b e1
      | _ => .stuck
  | .tup es, en => (evL C es en).bind fun rs e1 => if rs.all fun r => (keepK r).isSome then .ok (.tuple (dsOf rs), .own 0) e1 else .stuck
  | .lst k es, en => (evL C es en).bind fun rs e1 => if (rs.all fun r => (keepK r).isSome) && rs.all (keepItem k) then .ok (.list (dsOf rs), .own k) e1 else .stuck
  | .dic0, en => .ok (.dict [], .own 0) en
  | .ix a b, en => (ev C a en).bind fun x e1 => (ev C b e1).bind fun y e2 => if pend x (muE b) then ixR e2 x y.1 else .stuck
  | .sl a lo hi, en => (ev C a en).bind fun x e1 => (evO C lo e1).bind fun l e2 => (evO C hi e2).bind fun h e3 => if pend x (muO lo ++ muO hi) then slR e3 x l h else .stuck
  | .rev a, en => (ev C a en).bind fun x e1 => if itemsOk x then match revD x.1 with
      | some d => .ok (d, .own (flagOf d 1)) e1
      | none => .stuck
    else .stuck
  | .call f io es ks, en => (evL C es en).bind fun rs e1 => if ks.isEmpty then callD (C.fn f) io (ioBl io es) rs e1 else if io.isEmpty then callD (fun ds => C.fn f (permL ks ds)) [] [] rs e1 else .stuck
  | .calv i es, en => match en[i]? with
    | some (some (.dict [(.none, .int f)], _)) => match C.fnv f.toNat with
      | some co => if (muL es).contains i then .stuck else (evL C es en).bind fun rs e1 => callD co [] [] rs e1
      | none => .stuck
    | some (some (.dict [(.none, .int l), (.none, .tuple vs)], _)) => if (muL es).contains i then .stuck else (evL C es en).bind fun rs e1 => callD (C.lam l.toNat vs) [] [] rs e1
    | _ => .stuck
  | .bi b es, en => (evL C es en).bind fun rs e1 => if rs.all itemsOk then match biD b (dsOf rs) with
      | some d => .ok (d, .own (flagOf d 1)) e1
      | none => .stuck
    else .stuck
  | .rngl tp es, en => (evL C es en).bind fun rs e1 => match rangeD (dsOf rs) with
      | some xs => if tp then .ok (.tuple xs, .own 0) e1 else .ok (.list xs, .own 1) e1
      | none => .stuck
  | .mt m a es, en => (ev C a en).bind fun x e1 => if isSq x.1 then (evL C es e1).bind fun rs e2 => if pend x (muL es) then okD (mtD m x.1 (dsOf rs)) e2 else .stuck else .stuck
  | .mu m i es, en => if isLst en i && !(muL es).contains i then (evL C es en).bind fun rs e1 => muR m i rs e1 else .stuck
  | .lc k own g it ifs elt, en => (evI C it en).bind fun r e1 => if (r.2.all fun i => !(own ++ muL ifs ++ muE elt).contains i) then
      (lcL (lcT k g (fun e => evAnd1 C ifs e) (fun e => ev C elt e)) own r.1 [] (wipeE e1 own)).bind fun ds e2 => .ok (.list ds, .own k) e2
    else .stuck
  | .lc2 k own g it ifs own1 g1 it1 ifs1 elt, en => (evI C it en).bind fun r e1 => if (r.2.all fun i => !(own ++ muL ifs ++ muI it1 ++ muL ifs1 ++ muE elt).contains i) then
      (lc2L (lc2T g (fun e => evAnd1 C ifs e) (fun e => evF C it1 e) own1 (fun ds acc e => lcL (lcT k g1 (fun e => evAnd1 C ifs1 e) (fun e => ev C elt e)) own1 ds acc e)) own r.1 [] (wipeE e1 own)).bind fun ds e2 => .ok (.list ds, .own k) e2
    else .stuck
  | .lam l cs, en => match capD en cs with
      | some vs => .ok (loD l vs, .own 0) en
      | none => .stuck
  | .callL f es l cs, en => (evL C es en).bind fun rs e1 => match capD e1 cs with
      | some vs => callD (fun ds => lamOut (C.fn f (ds ++ [loD l vs]))) [] [] rs e1
      | none => .stuck
  | .stk, _ => .stuck
def evL (C : Orc) : EL → En → Out (List (D × Kd))
  | .nil, en => .ok [] en
  | .cons e es, en => (ev C e en).bind fun r e1 => (evL C es e1).bind fun rs e2 => if pend r (muL es) then .ok (r :: rs) e2 else .stuck
def evO (C : Orc) : OE → En → Out (Option Int)
  | .none, en => .ok none en
  | .some e, en => (ev C e en).bind fun r e1 => partO r.1 e1
def evAnd (C : Orc) : EL → En → Out (D × Kd)
  | .nil, en => .ok (.bool true, .own 0) en
  | .cons e .nil, en => (ev C e en).bind fun x e1 => match x.1 with
      | .bool b => .ok (.bool b, .own 0) e1
      | _ => .stuck
  | .cons e (.cons f es), en => (ev C e en).bind fun x e1 => match x.1 with
      | .bool true => evAnd C (.cons f es) e1
      | .bool false => .ok (.bool false, .own 0) e1
      | _ => .stuck
def evOr (C : Orc) : EL → En → Out (D × Kd)
  | .nil, en => .ok (.bool false, .own 0) en
  | .cons e .nil, en => (ev C e en).bind fun x e1 => match x.1 with
      | .bool b => .ok (.bool b, .own 0) e1
      | _ => .stuck
  | .cons e (.cons f es), en => (ev C e en).bind fun x e1 => match x.1 with
      | .bool true => .ok (.bool true, .own 0) e1
      | .bool false => evOr C (.cons f es) e1
      | _ => .stuck
/-- the tests of a comprehension -/
def evAnd1 (C : Orc) : EL → En → Out Bool
  | .nil, en => .ok true en
  | .cons e es, en => (ev C e en).bind fun x e1 => match x.1 with
      | .bool true => evAnd1 C es e1
      | .bool false => .ok false e1
      | _ => .stuck
def evI (C : Orc) : IT → En → Out (List D × List Nat)
  | .seq e, en => (ev C e en).bind fun r e1 => match itemsD r with
      | some xs => .ok (xs, rootsOf r) e1
      | none => .stuck
  | .rng es, en => (evL C es en).bind fun rs e1 => match rangeD (dsOf rs) with
      | some xs => .ok (xs, []) e1
      | none => .stuck
  | .enum e, en => (ev C e en).bind fun r e1 => match itemsD r with
      | some xs => .ok (enumD xs, rootsOf r) e1
      | none => .stuck
  | .zip a b, en => (ev C a en).bind fun x e1 => (ev C b e1).bind fun y e2 => if pend x (muE b) && sameSq x.1 y.1 then match itemsD x, itemsD y with
      | some xs, some ys => .ok (zipD xs ys, rootsOf x ++ rootsOf y) e2
      | _, _ => .stuck
    else .stuck
/-- what is walked within: a tuple, a range -/
def evF (C : Orc) : IT → En → Out (List D)
  | .seq e, en => (ev C e en).bind fun r e1 => match r.1 with
      | .tuple xs => if lfs xs then .ok xs e1 else .stuck
      | _ => .stuck
  | .rng es, en => (evL C es en).bind fun rs e1 => match rangeD (dsOf rs) with
      | some xs => .ok xs e1
      | none => .stuck
  | _, _ => .stuck
end

/-! ### statements -/
def muV : List LV → List Nat
  | [] => []
  | .nm i :: r => i :: muV r
  | .sub i p :: r => i :: (muL p ++ muV r)
inductive Fl where
  | nx
  | rt (d : D) (k : Nat)
mutual
def muS : S → List Nat
  | .asg g e => muE e ++ ptL g
  | .asgm ts e => muE e ++ muV ts
  | .set i p e => i :: (muE e ++ muL p)
  | .par is es => muL es ++ is
  | .aug i _ e => i :: muE e
  | .ex e => muE e
  | .ret e => muE e
  | .retN => []
  | .ite c a b => muE c ++ muSs a ++ muSs b
  | .for_ g it body => muI it ++ ptL g ++ muSs body
  | .whl c body => muE c ++ muSs body
  | .pass => []
  | .stk => []
def muSs : SL → List Nat
  | .nil => []
  | .cons s r => muS s ++ muSs r
end
def fls (o : Out Fl) (f : En → Out Fl) : Out Fl := o.bind fun fl en => match fl with
  | .nx => f en
  | .rt d k => .ok (.rt d k) en
def asgN (i : Nat) (r : D × Kd) (en : En) : Option En := match keepK r with
  | some n => if i < en.length then some (en.set i (some (r.1, flagOf r.1 n))) else none
  | none => none
def asgNs : List Nat → List (D × Kd) → En → Option En
  | [], [], en => some en
  | i :: is, r :: rs, en => (asgN i r en).bind fun e1 => asgNs is rs e1
  | _, _, _ => none
def ownK (r : D × Kd) : Bool := match r.2 with
  | .own _ => true
  | _ => false
/-- x o= y, of whole numbers and texts -/
def isAug : BO → D → Bool
  | .pow, _ => false
  | _, .int _ => true
  | .add, .str _ => true
  | _, _ => false
def augD (o : BO) (x y : D) : Option D := match x, y with
  | .int _, .int _ => binD o x y
  | .str _, .str _ => binD o x y
  | _, _ => none
def setOk (n p : Nat) (r : D × Kd) : Bool := decide (p ≤ n) && (lf r.1 || match r.2 with
  | .own m => decide (n - p ≤ m)
  | .root _ _ _ => false)
/-- x[p].. = v -/
def setS (i : Nat) (p : List D) (r : D × Kd) (en : En) : Option En := match en[i]? with
  | some (some (d, n)) => if setOk n p.length r then (setP d p r.1).map fun d' => en.set i (some (d', n)) else none
  | _ => none
def asgLV (C : Orc) : List LV → List D → En → Out Unit
  | [], [], en => .ok () en
  | .nm i :: ts, d :: ds, en => if i < en.length then asgLV C ts ds (en.set i (some (d, 0))) else .stuck
  | .sub i p :: ts, d :: ds, en => if isLst en i && !(muL p).contains i then match evL C p en with
      | .ok rs e1 => match setS i (dsOf rs) (d, .own 0) en, setS i (dsOf rs) (d, .own 0) e1 with
        | some _, some e2 => asgLV C ts ds e2
        | _, _ => .stuck
      | _ => .stuck
    else .stuck
  | _, _, _ => .stuck
def opt (o : Option En) : Out Fl := match o with
  | some e => .ok .nx e
  | none => .stuck
/-- the loop of a for: over its items -/
def forL (f : D → En → Out Fl) : List D → En → Out Fl
  | [], en => .ok .nx en
  | d :: ds, en => fls (f d en) fun e1 => forL f ds e1
def whlL (c : En → Out Bool) (f : En → Out Fl) : Nat → En → Out Fl
  | 0, _ => .stuck
  | n + 1, en => (c en).bind fun b e1 => if b then fls (f e1) fun e2 => whlL c f n e2 else .ok .nx e1
def evB (C : Orc) (e : E) (en : En) : Out Bool := (ev C e en).bind fun x e1 => match x.1 with
  | .bool b => .ok b e1
  | _ => .stuck
mutual
def ex (C : Orc) (W : Nat) : S → En → Out Fl
  | .asg (.nm i) e, en => (ev C e en).bind fun r e1 => opt (asgN i r e1)
  | .asg g e, en => (ev C e en).bind fun r e1 => match keepK r with
      | some _ => opt (bindP g r.1 e1)
      | none => .stuck
  | .asgm ts e, en => (ev C e en).bind fun r e1 => match r.1, keepK r with
      | .tuple ds, some _ => if lfs ds then (asgLV C ts ds e1).bind fun _ e2 => .ok .nx e2 else .stuck
      | _, _ => .stuck
  | .set i p e, en => (ev C e en).bind fun r e1 => if isLst e1 i && !(muL p).contains i then (evL C p e1).bind fun rs e2 => if pend r (muL p) && (keepK r).isSome then opt (setS i (dsOf rs) r e2) else .stuck else .stuck
  | .par is es, en => (evL C es en).bind fun rs e1 => if rs.all ownK then opt (asgNs is rs e1) else .stuck
  | .aug i o e, en => match en[i]? with
      | some (some (x, 0)) => if isAug o x && !(muE e).contains i then (ev C e en).bind fun y e1 => match augD o x y.1 with
            | some d => opt (asgN i (d, .own 0) e1)
            | none => .stuck
          else .stuck
      | _ => .stuck
  | .ex e, en => (ev C e en).bind fun _ e1 => .ok .nx e1
  | .ret e, en => (ev C e en).bind fun r e1 => match keepK r with
      | some n => .ok (.rt r.1 n) e1
      | none => .stuck
  | .retN, en => .ok (.rt .none 0) en
  | .ite c a b, en => (evB C c en).bind fun t e1 => if t then exs C W a e1 else exs C W b e1
  | .for_ g it body, en => (evI C it en).bind fun r e1 => if (r.2.all fun i => !(ptL g ++ muSs body).contains i) then
      forL (fun d e => match bindP g d e with
        | some e' => exs C W body e'
        | none => .stuck) r.1 e1
    else .stuck
  | .whl c body, en => whlL (evB C c) (exs C W body) W en
  | .pass, en => .ok .nx en
  | .stk, _ => .stuck
def exs (C : Orc) (W : Nat) : SL → En → Out Fl
  | .nil, en => .ok .nx en
  | .cons s r, en => fls (ex C W s en) fun e1 => exs C W r e1
end

/-! ### defs -/
/-- a def: how many parameters, how many slots, which parameters are changed (and to which depth they are ours), the body -/
structure FD where
  np : Nat
  ns : Nat
  io : List Nat := []
  body : SL
def argE : List Nat → List D → En
  | _, [] => []
  | [], d :: ds => some (d, 0) :: argE [] ds
  | n :: ns, d :: ds => some (d, n) :: argE ns ds
def startE (F : FD) (ds : List D) : En := argE F.io ds ++ List.replicate (F.ns - ds.length) none
def iosOut (en : En) : Nat → List Nat → Option (List D)
  | _, [] => some []
  | i, 0 :: ns => iosOut en (i + 1) ns
  | i, (n + 1) :: ns => match en[i]? with
    | some (some (d, m)) => if m = n + 1 then (iosOut en (i + 1) ns).map (d :: ·) else none
    | _ => none
def runD (C : Orc) (W : Nat) (F : FD) (ds : List D) : CO := if ds.length = F.np then match exs C W F.body (startE F ds) with
    | .ok fl en => match iosOut en 0 F.io, fl with
      | some ios, .nx => .ret .none 0 ios
      | some ios, .rt d k => .ret d k ios
      | none, _ => .stuck
    | .exc x en => match iosOut en 0 F.io with
      | some ios => .exc x ios
      | none => .stuck
    | .stuck => .stuck
  else .stuck
/-- a program: its defs, lambdas, constants -/
structure Prg where
  fs : List FD
  ls : List FD := []
  gs : List D := []
def orc (P : Prg) (W : Nat) : Nat → Orc
  | 0 => { fn := fun _ _ => .stuck, lam := fun _ _ _ => .stuck, fnv := fun _ => none, gl := fun g => P.gs[g]? }
  | n + 1 =>
    { fn := fun f ds => match P.fs[f]? with
        | some F => runD (orc P W n) W F ds
        | none => .stuck
      lam := fun l vs ds => match P.ls[l]? with
        | some F => if nls ds then lamOut (runD (orc P W n) W F (ds ++ vs)) else .stuck
        | none => .stuck
      fnv := fun f => match P.fs[f]? with
        | some F => if F.io.isEmpty then some (runD (orc P W n) W F) else none
        | none => none
      gl := fun g => P.gs[g]? }
end QQ
namespace QQ
open PySem L2 PyProof.Rows

abbrev FT (o : Obj) (xs : List V) : HO := .frz o (.tup xs)
/-- a tuple's object -/
def tobj (us : List Value) : Obj := { cls := .type "tuple", data := .seq us.toArray }
section
variable {X : Cx} {pins : List (Addr × Obj)} {σ : L2.St} {H : Hp} {s : Shared}
/-- a new tuple is laid -/
theorem laidT {h' : Heap} {tk : Nat} {us : List Value} {xs : List V} (I : Inv X pins σ H s) (kp : ∀ b o, s.heap.get? b = some o → h'.get? b = some o) (r : Vals xs us) (hz : xs.length ≤ sizeLine) {a : Addr} (ha : s.heap.objs.size ≤ a) (e : h'.get? a = some (tobj us)) :
    Inv X pins σ (upd H a (FT (tobj us) xs)) { s with heap := h', toks := tk } :=
  I.laid (t' := tk) kp ha (show ObjOk X.prog X.w _ _ _ (FT (tobj us) xs) from ⟨e, hz, us, r, ⟨_, e, rfl, _, rfl⟩⟩)
abbrev NewT (H : Hp) (xs : List V) (Q : VK) : Prop := ∀ p o, H p = none → o.dict = none → Q (.ref p) (upd H p (FT o xs))
end
section
variable {X : Cx}
def tTupN (t : TA) : TE := fun σ H Q => t σ H fun xs H1 => xs.length ≤ sizeLine ∧ NewT H1 xs Q
theorem pe_tupN {es : List Expr} {t : TA} {x1 pos} (h : PA X es t) : PE X (.Tuple es x1 pos) (tTupN t) := by
  refine ⟨fun pins s σ H Q I hq => ?_⟩
  refine wpAny_Tuple_spliced (thn (h.run pos pins s σ H _ I hq) fun us s1 ⟨xs, H1, I1, r, z, q⟩ => ⟨by rw [← r.length]; exact z, ?_⟩)
  have hf : H1 s1.heap.objs.size = none := I1.hok.fresh (Nat.le_refl _)
  exact ⟨.ref s1.heap.objs.size, _, laidT (tk := s1.toks) I1 (fun b u e => Heap.get?_push_of_some _ e) r z (Nat.le_refl _) (Heap.get?_push_size _ rfl), rfl, q _ _ hf rfl⟩
theorem call_tuple_ofN : CallR X (.type "tuple") (fun xs H Q => ∃ p ys, xs = [.ref p] ∧ ((SqL X.K H p ys ∧ NewT H ys Q) ∨ (SqT X.K H p ys ∧ Q (.ref p) H))) := by
  intro pins s σ H xs us Q I r h
  obtain ⟨p, ys, rfl, h⟩ := h
  obtain ⟨u, rfl, rx⟩ := vals1 r
  cases rx
  rcases h with ⟨hq, q⟩ | ⟨hq, q⟩
  · obtain ⟨its, r', pl, hz⟩ := I.list hq
    have hlen := r'.length
    refine call_tuple_list pl.isList (fun h' kp => ?_) (by simp only [List.size_toArray] <;> omega)
    have I1 : Inv X pins σ H { s with heap := h' } := I.kept (t' := s.toks) kp
    exact ⟨.ref h'.objs.size, _, laidT (tk := s.toks) I1 (fun b o e => Heap.get?_push_of_some _ e) r' hz (Nat.le_refl _) (Heap.get?_push_size _ rfl), rfl, q _ _ (I1.hok.fresh (Nat.le_refl _)) rfl⟩
  · obtain ⟨its, r', pl, hz⟩ := I.tuple hq
    exact call_tuple_same pl ⟨.ref p, H, I, rfl, q⟩
def rCatN (K : PySem.W.Frag) : R2 := fun x y H Q => ∃ a b xs ys, x = .ref a ∧ y = .ref b ∧ SqT K H a xs ∧ SqT K H b ys ∧ xs.length + ys.length ≤ sizeLine ∧
  (xs = [] → Q (.ref b) H) ∧ (xs ≠ [] → ys = [] → Q (.ref a) H) ∧ (xs ≠ [] → ys ≠ [] → NewT H (xs ++ ys) Q)
theorem op_catN : OpR X (binaryOp .Add) (rCatN X.K) := by
  intro pins s σ H x y v u Q I rx ry h
  obtain ⟨a, b, xs, ys, rfl, rfl, ha, hb, hz, q0, q1, q2⟩ := h
  cases rx
  cases ry
  obtain ⟨its, r1, p1, _⟩ := I.tuple ha
  obtain ⟨its2, r2, p2, _⟩ := I.tuple hb
  by_cases hx : xs = []
  · subst hx
    cases r1
    exact cat_tup0 p1 p2 ⟨.ref b, H, I, rfl, q0 rfl⟩
  · refine HT.cat_tup p1 p2 (fun z => hx (r1.nil_iff.mp z)) (fun z => ⟨.ref a, H, I, rfl, q1 hx (r2.nil_iff.mp z)⟩) (fun z => ?_) (by rw [← r1.length, ← r2.length]; exact hz)
    exact ⟨.ref s.heap.objs.size, _, laidT (tk := s.toks) I (fun b ob q => Heap.get?_push_of_some _ q) (r1.append r2) (by rw [List.length_append]; exact hz) (Nat.le_refl _) (Heap.get?_push_size _ rfl), rfl, q2 hx (fun w => z (r2.nil_iff.mpr w)) _ _ (I.hok.fresh (Nat.le_refl _)) rfl⟩
def rSlN (K : PySem.W.Frag) : V → Option Int → Option Int → Hp → VK → Prop := fun x lo hi H Q => ∃ a xs, x = .ref a ∧ SqT K H a xs ∧
  (HT.sIx xs.length 0 lo = 0 ∧ HT.sIx xs.length xs.length hi = xs.length → Q (.ref a) H) ∧ (¬ (HT.sIx xs.length 0 lo = 0 ∧ HT.sIx xs.length xs.length hi = xs.length) → NewT H (cutV xs lo hi) Q)
theorem sl_tupN : SlR X (rSlN X.K) := by
  intro pins s σ H x v vl vu lo hi sl Q I rx hs pl pu h
  obtain ⟨a, xs, rfl, hx, q1, q2⟩ := h
  cases rx
  obtain ⟨its, r, ht, hz⟩ := I.tuple hx
  have hlen : its.toArray.size = xs.length := by rw [List.size_toArray]; exact r.length.symm
  refine ⟨"tuple", _, PyProof.Rows.slot_tuple_getitem.lookup, ht.typeIs, ?_⟩
  by_cases hw : HT.sIx xs.length 0 lo = 0 ∧ HT.sIx xs.length xs.length hi = xs.length
  · exact getItem_tuple_whole ht hs pl pu (by rw [hlen]; exact hw) ⟨.ref a, H, I, rfl, q1 hw⟩
  · refine HT.getItem_tuple_cut ht hs pl pu (by rw [hlen]; exact hw) ?_ (by rw [hlen]; exact hz)
    rw [hlen]
    exact ⟨.ref s.heap.objs.size, _, laidT (tk := s.toks) I (fun b ob q => Heap.get?_push_of_some _ q) ((r.drop (HT.sIx xs.length 0 lo)).take (HT.sIx xs.length xs.length hi - HT.sIx xs.length 0 lo)) (Nat.le_trans (cutV_length xs lo hi) hz) (Nat.le_refl _) (Heap.get?_push_size _ rfl), rfl, q2 hw _ _ (I.hok.fresh (Nat.le_refl _)) rfl⟩
theorem call_divmodN : CallR X (.builtin "divmod") (fun xs H Q => ∃ i j, xs = [.int i, .int j] ∧ CDiv i j ∧ NewT H [.int (i / j), .int (i % j)] Q) := by
  intro pins s σ H xs us Q I r h
  obtain ⟨i, j, rfl, ⟨h1, h2⟩, q⟩ := h
  obtain ⟨u, w', rfl, ⟨t, rfl⟩, ⟨t', rfl⟩⟩ := vals2 r
  refine divmod_int (by omega) ?_ (.inl (PyProof.noPylong_small (by omega)))
  rw [Int.fdiv_eq_ediv_of_nonneg i (by omega), Int.fmod_eq_emod_of_nonneg i (by omega)]
  have hn : H s.heap.objs.size = none := I.hok.fresh (Nat.le_refl _)
  refine ⟨.ref s.heap.objs.size, _, ?_, rfl, q _ (tobj [.int (i / j) s.toks, .int (i % j) (s.toks + 1)]) hn rfl⟩
  exact laidT (us := [.int (i / j) s.toks, .int (i % j) (s.toks + 1)]) (xs := [.int (i / j), .int (i % j)]) I (fun b o e => Heap.get?_push_of_some _ e) (.cons ⟨_, rfl⟩ (.cons ⟨_, rfl⟩ .nil)) (by simp only [List.length_cons, List.length_nil]; rw [sizeLine_eq]; decide) (Nat.le_refl _) (Heap.get?_push_size _ rfl)
def tTupRgN (te : L2.St → Hp → (Int → Int → Hp → Prop) → Prop) : TE := fun σ H Q => te σ H fun a b H1 => RgOk a b ∧ NewT H1 (rgV a b) Q
theorem pe_tupRgN {e : Expr} {te : L2.St → Hp → (Int → Int → Hp → Prop) → Prop} {p pos : Pos} (hc : X.calm = true) (hg : Gl X "tuple") (hm : X.mg "tuple" = none) (he : PRg X e te) (na : starEach [e] X.env = (false, eval e X.env) :: starEach [] X.env) : PE X (.Call (.Name "tuple" p) [e] [] pos) (tTupRgN te) := by
  refine ⟨fun pins s σ H Q I h => ?_⟩
  refine Call_ (ld_blt I hg hm boot_tuple (PyProof.Rows.callWith_type1 (args_cons (thn (he pins s σ H _ I h) fun x s1 ⟨r, a, b, t, u, v, H1, ex, hr, I1, ok, q⟩ => args_nil ?_) na) na))
  subst ex
  obtain ⟨b1, b2, b3, b4, b5⟩ := ok
  refine call_tuple_range (n := (b - a).toNat) (I1.ok.hd hc) hr (small_one b1 b2 b3 b4) (rangeSize_nat a b) b5 fun h' tk acc hk hi => ?_
  have I2 : Inv X pins σ H1 { s1 with heap := h', toks := tk } := I1.kept hk
  refine ⟨.ref h'.objs.size, _, laidT (us := acc.toList) (tk := tk) I2 (fun c o e => Heap.get?_push_of_some _ e) (vals_rg hi) (by rw [rgV_length, sizeLine_eq]; omega) (Nat.le_refl _) (by rw [tobj, Array.toArray_toList]; exact Heap.get?_push_size _ rfl), rfl, q _ _ (I2.hok.fresh (Nat.le_refl _)) rfl⟩
end
end QQ
namespace QQ
open PySem L2

/-- what stays where it is: tuples, locked things -/
def fixO : HO → Bool
  | .tup _ => true
  | .frz _ _ => true
  | .ext _ => true
  | _ => false
/-- what stands fixed through a def's body: the heap at its entry, the lists handed over to be changed, what the arguments are made of, the values in the slots of the first ones -/
structure Cb where
  K : PySem.W.Frag
  fa : Nat → Addr
  ca : Nat → Addr
  lamR : Hp → Nat → List D → V → Prop
  lamS : ∀ H H' : Hp, (∀ a x, H a = some x → fixO x = true → H' a = some x) → ∀ l vs v, lamR H l vs v → lamR H' l vs v
  tb : List NdefX.NTab
  H0 : Hp
  io : List Addr
  ar : List Addr
  iov : List (Nat × V)

/-- a list that never changes: the script, one of the module -/
def StL (K : PySem.W.Frag) (H : Hp) (a : Addr) (xs : List V) : Prop :=
  (∃ o, H a = some (.frz o (.lst xs))) ∨
    ∃ (o : Obj) (its : Array Value) (n : Nat), K.lookup a = some o ∧ o.cls = .type "list" ∧ o.dict = none ∧ o.data = .seq its n ∧ its.size ≤ sizeLine ∧ Vals xs its.toList
theorem StL.sq {K : PySem.W.Frag} {H : Hp} {a : Addr} {xs : List V} (h : StL K H a xs) : SqL K H a xs := by
  rcases h with ⟨o, h⟩ | h
  · exact .inl (.inr ⟨o, h⟩)
  · exact .inr h

/-- a tuple's object has no dict -/
def NoD (K : PySem.W.Frag) (H : Hp) (a : Addr) : Prop := (∃ o u, H a = some (.frz o u) ∧ o.dict = none) ∨ ∃ o, K.lookup a = some o ∧ o.dict = none
abbrev SqN (K : PySem.W.Frag) (H : Hp) (a : Addr) (xs : List V) : Prop := SqT K H a xs ∧ NoD K H a
theorem SqN.of {K : PySem.W.Frag} {H : Hp} {a : Addr} {xs : List V} {o : Obj} (h : H a = some (FT o xs)) (d : o.dict = none) : SqN K H a xs := ⟨.inl (.inr ⟨o, h⟩), .inl ⟨o, _, h, d⟩⟩

/-- a dict's form: an empty one, a def, a lambda -/
def RD (c : Cb) (H : Hp) (kvs : List (D × D)) (v : V) (o s : List Addr) : Prop := match kvs with
  | [] => ∃ a, v = .ref a ∧ H a = some (.dK []) ∧ o = [] ∧ s = [a]
  | [(.none, .int f)] => v = .ref (c.fa f.toNat) ∧ o = [] ∧ s = []
  | [(.bool false, .list ds)] => o = [] ∧ s = [] ∧ ∃ (a : Addr) (ns : List Int), v = .ref a ∧ ds = ns.map PyData.int ∧ StL c.K H a (ns.map V.int)
  | [(.none, .int l), (.none, .tuple vs)] => c.lamR H l.toNat vs v ∧ o = [] ∧ s = []
  | _ => False
mutual
/-- d lies at v: o the lists of it that are ours (to the depth n), s the other ones -/
def RO (c : Cb) (H : Hp) : D → Nat → V → List Addr → List Addr → Prop
  | .none, _, v, o, s => v = .non ∧ o = [] ∧ s = []
  | .bool b, _, v, o, s => v = .bl b ∧ o = [] ∧ s = []
  | .int i, _, v, o, s => v = .int i ∧ o = [] ∧ s = []
  | .str x, _, v, o, s => v = .str x ∧ o = [] ∧ s = []
  | .tuple ds, n, v, o, s => ∃ a vs, v = .ref a ∧ SqN c.K H a vs ∧ ROs c H ds n vs o s
  | .list ds, n, v, o, s => ∃ a vs, v = .ref a ∧ match n with
    | 0 => H a = some (.lst vs) ∧ ∃ s', ROs c H ds 0 vs o s' ∧ s = a :: s'
    | m + 1 => H a = some (.lst vs) ∧ ∃ o', ROs c H ds m vs o' s ∧ o = a :: o'
  | .dict kvs, _, v, o, s => RD c H kvs v o s
def ROs (c : Cb) (H : Hp) : List D → Nat → List V → List Addr → List Addr → Prop
  | [], _, vs, o, s => vs = [] ∧ o = [] ∧ s = []
  | d :: ds, n, vs, o, s => ∃ v vs' o1 s1 o2 s2, vs = v :: vs' ∧ RO c H d n v o1 s1 ∧ ROs c H ds n vs' o2 s2 ∧ o = o1 ++ o2 ∧ s = s1 ++ s2
end

/-- what stays where it is: tuples, locked things, and the things at L -/
def Stab (H H' : Hp) (L : List Addr) : Prop := ∀ a x, H a = some x → fixO x = true ∨ a ∈ L → H' a = some x
theorem Stab.sub {H H' : Hp} {L L' : List Addr} (h : Stab H H' L) (hs : ∀ a, a ∈ L' → a ∈ L) : Stab H H' L' := fun a x e q => h a x e (q.imp id (hs a))
theorem sqT_stab {K : PySem.W.Frag} {H H' : Hp} {a : Addr} {xs : List V} (h : ∀ a x, H a = some x → fixO x = true → H' a = some x) (q : SqT K H a xs) : SqT K H' a xs := by
  rcases q with (q | ⟨o, q⟩) | q
  · exact .inl (.inl (h _ _ q rfl))
  · exact .inl (.inr ⟨o, h _ _ q rfl⟩)
  · exact .inr q
theorem noD_stab {K : PySem.W.Frag} {H H' : Hp} {a : Addr} (h : ∀ a x, H a = some x → fixO x = true → H' a = some x) (q : NoD K H a) : NoD K H' a := by
  rcases q with ⟨o, u, e, d⟩ | q
  · exact .inl ⟨o, u, h _ _ e rfl, d⟩
  · exact .inr q
theorem sqN_stab {K : PySem.W.Frag} {H H' : Hp} {a : Addr} {xs : List V} (h : ∀ a x, H a = some x → fixO x = true → H' a = some x) (q : SqN K H a xs) : SqN K H' a xs := ⟨sqT_stab h q.1, noD_stab h q.2⟩
theorem stL_stab {K : PySem.W.Frag} {H H' : Hp} {a : Addr} {xs : List V} (h : ∀ a x, H a = some x → fixO x = true → H' a = some x) (q : StL K H a xs) : StL K H' a xs := by
  rcases q with ⟨o, q⟩ | q
  · exact .inl ⟨o, h _ _ q rfl⟩
  · exact .inr q

section
variable {c : Cb}
theorem RD.stab {H H' : Hp} {kvs : List (D × D)} {v : V} {o s : List Addr} (h : RD c H kvs v o s) (k : Stab H H' (o ++ s)) : RD c H' kvs v o s := by
  unfold RD at h
  split at h
  · obtain ⟨a, e, q, eo, es⟩ := h
    subst es
    exact ⟨a, e, k a _ q (.inr (by simp)), eo, rfl⟩
  · exact h
  · obtain ⟨h1, h2, a, ns, e1, e2, q⟩ := h
    exact ⟨h1, h2, a, ns, e1, e2, stL_stab (fun a x e f => k a x e (.inl f)) q⟩
  · exact ⟨c.lamS H H' (fun a x e f => k a x e (.inl f)) _ _ _ h.1, h.2⟩
  · exact h.elim
mutual
theorem RO.stab {H H' : Hp} : ∀ (d : D) (n : Nat) (v : V) (o s : List Addr), RO c H d n v o s → Stab H H' (o ++ s) → RO c H' d n v o s
  | .none, _, _, _, _, h, _ => by rw [RO] at h ⊢; exact h
  | .bool b, _, _, _, _, h, _ => by rw [RO] at h ⊢; exact h
  | .int i, _, _, _, _, h, _ => by rw [RO] at h ⊢; exact h
  | .str x, _, _, _, _, h, _ => by rw [RO] at h ⊢; exact h
  | .tuple ds, n, _, _, _, h, k => by
    rw [RO] at h ⊢
    obtain ⟨a, vs, e, q, r⟩ := h
    exact ⟨a, vs, e, sqN_stab (fun a x e f => k a x e (.inl f)) q, ROs.stab ds n vs _ _ r k⟩
  | .list ds, 0, _, _, _, h, k => by
    rw [RO] at h ⊢
    obtain ⟨a, vs, e, q⟩ := h
    refine ⟨a, vs, e, ?_⟩
    obtain ⟨q, s', r, es⟩ := q
    subst es
    exact ⟨k a _ q (.inr (by simp)), s', ROs.stab ds 0 vs _ _ r (k.sub fun b hb => by simp only [List.mem_append, List.mem_cons] at hb ⊢; rcases hb with hb | hb; exact .inl hb; exact .inr (.inr hb)), rfl⟩
  | .list ds, m + 1, _, _, _, h, k => by
    rw [RO] at h ⊢
    obtain ⟨a, vs, e, q, o', r, eo⟩ := h
    subst eo
    exact ⟨a, vs, e, k a _ q (.inr (by simp)), o', ROs.stab ds m vs _ _ r (k.sub fun b hb => by simp only [List.mem_append, List.mem_cons] at hb ⊢; rcases hb with hb | hb; exact .inl (.inr hb); exact .inr hb), rfl⟩
  | .dict kvs, n, v, o, s, h, k => by
    rw [RO] at h ⊢
    exact RD.stab h k
theorem ROs.stab {H H' : Hp} : ∀ (ds : List D) (n : Nat) (vs : List V) (o s : List Addr), ROs c H ds n vs o s → Stab H H' (o ++ s) → ROs c H' ds n vs o s
  | [], _, _, _, _, h, _ => by rw [ROs] at h ⊢; exact h
  | d :: ds, n, _, _, _, h, k => by
    rw [ROs] at h ⊢
    obtain ⟨v, vs', o1, s1, o2, s2, e, r1, r2, eo, es⟩ := h
    subst eo es
    refine ⟨v, vs', o1, s1, o2, s2, e, RO.stab d n v _ _ r1 (k.sub fun b hb => ?_), ROs.stab ds n vs' _ _ r2 (k.sub fun b hb => ?_), rfl, rfl⟩
    · simp only [List.mem_append] at hb ⊢; rcases hb with hb | hb; exact .inl (.inl hb); exact .inr (.inl hb)
    · simp only [List.mem_append] at hb ⊢; rcases hb with hb | hb; exact .inl (.inr hb); exact .inr (.inr hb)
end
end

section
variable {c : Cb} {H : Hp}
/-- fewer are ours -/
def Wk (o s o' s' : List Addr) : Prop := (∃ r, List.Perm o (o' ++ r) ∧ ∀ a, a ∈ s' ↔ a ∈ s ∨ a ∈ r)
theorem Wk.refl {o s : List Addr} : Wk o s o s := ⟨[], by simp, by simp⟩
theorem Wk.app {o1 s1 o1' s1' o2 s2 o2' s2' : List Addr} (h1 : Wk o1 s1 o1' s1') (h2 : Wk o2 s2 o2' s2') : Wk (o1 ++ o2) (s1 ++ s2) (o1' ++ o2') (s1' ++ s2') := by
  obtain ⟨r1, p1, q1⟩ := h1
  obtain ⟨r2, p2, q2⟩ := h2
  refine ⟨r1 ++ r2, ?_, fun a => ?_⟩
  · refine (p1.append p2).trans ?_
    rw [List.append_assoc, List.append_assoc]
    refine List.Perm.append_left _ ?_
    rw [← List.append_assoc, ← List.append_assoc]
    exact List.Perm.append_right _ List.perm_append_comm
  · simp only [List.mem_append, q1, q2]
    constructor
    · rintro ((h | h) | (h | h))
      · exact .inl (.inl h)
      · exact .inr (.inl h)
      · exact .inl (.inr h)
      · exact .inr (.inr h)
    · rintro ((h | h) | (h | h))
      · exact .inl (.inl h)
      · exact .inr (.inl h)
      · exact .inl (.inr h)
      · exact .inr (.inr h)
mutual
theorem RO.weak : ∀ (d : D) (n m : Nat) (v : V) (o s : List Addr), m ≤ n → RO c H d n v o s → ∃ o' s', RO c H d m v o' s' ∧ Wk o s o' s'
  | .none, _, _, _, _, _, _, h => by rw [RO] at h; exact ⟨_, _, by rw [RO]; exact h, .refl⟩
  | .bool b, _, _, _, _, _, _, h => by rw [RO] at h; exact ⟨_, _, by rw [RO]; exact h, .refl⟩
  | .int i, _, _, _, _, _, _, h => by rw [RO] at h; exact ⟨_, _, by rw [RO]; exact h, .refl⟩
  | .str x, _, _, _, _, _, _, h => by rw [RO] at h; exact ⟨_, _, by rw [RO]; exact h, .refl⟩
  | .dict kvs, _, _, _, _, _, _, h => by rw [RO] at h; exact ⟨_, _, by rw [RO]; exact h, .refl⟩
  | .tuple ds, n, m, v, o, s, hm, h => by
    rw [RO] at h
    obtain ⟨a, vs, e, q, r⟩ := h
    obtain ⟨o', s', r', w⟩ := ROs.weak ds n m vs o s hm r
    exact ⟨o', s', by rw [RO]; exact ⟨a, vs, e, q, r'⟩, w⟩
  | .list ds, 0, 0, v, o, s, _, h => ⟨o, s, h, .refl⟩
  | .list ds, 0, m + 1, v, o, s, hm, h => absurd hm (by omega)
  | .list ds, n + 1, 0, v, o, s, _, h => by
    rw [RO] at h
    obtain ⟨a, vs, e, q, o1, r, eo⟩ := h
    subst eo
    obtain ⟨o', s', r', p, pr, ps⟩ := ROs.weak ds n 0 vs o1 s (Nat.zero_le _) r
    refine ⟨o', a :: s', by rw [RO]; exact ⟨a, vs, e, q, s', r', rfl⟩, a :: p, ?_, fun b => ?_⟩
    · exact (List.Perm.cons a pr).trans (List.perm_middle.symm)
    · simp only [List.mem_cons, ps]
      constructor
      · rintro (h | h | h)
        · exact .inr (.inl h)
        · exact .inl h
        · exact .inr (.inr h)
      · rintro (h | h | h)
        · exact .inr (.inl h)
        · exact .inl h
        · exact .inr (.inr h)
  | .list ds, n + 1, m + 1, v, o, s, hm, h => by
    rw [RO] at h
    obtain ⟨a, vs, e, q, o1, r, eo⟩ := h
    subst eo
    obtain ⟨o', s', r', p, pr, ps⟩ := ROs.weak ds n m vs o1 s (Nat.le_of_succ_le_succ hm) r
    exact ⟨a :: o', s', by rw [RO]; exact ⟨a, vs, e, q, o', r', rfl⟩, p, List.Perm.cons a pr, ps⟩
theorem ROs.weak : ∀ (ds : List D) (n m : Nat) (vs : List V) (o s : List Addr), m ≤ n → ROs c H ds n vs o s → ∃ o' s', ROs c H ds m vs o' s' ∧ Wk o s o' s'
  | [], _, _, _, _, _, _, h => by rw [ROs] at h; exact ⟨_, _, by rw [ROs]; exact h, .refl⟩
  | d :: ds, n, m, vs, o, s, hm, h => by
    rw [ROs] at h
    obtain ⟨v, vs', o1, s1, o2, s2, e, r1, r2, eo, es⟩ := h
    subst eo es
    obtain ⟨o1', s1', r1', w1⟩ := RO.weak d n m v o1 s1 hm r1
    obtain ⟨o2', s2', r2', w2⟩ := ROs.weak ds n m vs' o2 s2 hm r2
    exact ⟨_, _, by rw [ROs]; exact ⟨v, vs', o1', s1', o2', s2', e, r1', r2', rfl, rfl⟩, w1.app w2⟩
end
mutual
/-- at depth 0 nothing is ours -/
theorem RO.zero : ∀ (d : D) (v : V) (o s : List Addr), RO c H d 0 v o s → o = []
  | .none, _, _, _, h => by rw [RO] at h; exact h.2.1
  | .bool b, _, _, _, h => by rw [RO] at h; exact h.2.1
  | .int i, _, _, _, h => by rw [RO] at h; exact h.2.1
  | .str x, _, _, _, h => by rw [RO] at h; exact h.2.1
  | .dict kvs, _, _, _, h => by
    rw [RO] at h
    unfold RD at h
    split at h
    · obtain ⟨_, _, _, e, _⟩ := h; exact e
    · exact h.2.1
    · exact h.1
    · exact h.2.1
    · exact h.elim
  | .tuple ds, v, o, s, h => by
    rw [RO] at h
    obtain ⟨a, vs, e, q, r⟩ := h
    exact ROs.zero ds vs o s r
  | .list ds, v, o, s, h => by
    rw [RO] at h
    obtain ⟨a, vs, e, q, s', r, es⟩ := h
    exact ROs.zero ds vs o s' r
theorem ROs.zero : ∀ (ds : List D) (vs : List V) (o s : List Addr), ROs c H ds 0 vs o s → o = []
  | [], _, _, _, h => by rw [ROs] at h; exact h.2.1
  | d :: ds, vs, o, s, h => by
    rw [ROs] at h
    obtain ⟨v, vs', o1, s1, o2, s2, e, r1, r2, eo, es⟩ := h
    subst eo
    rw [RO.zero d v o1 s1 r1, ROs.zero ds vs' o2 s2 r2]; rfl
end
mutual
/-- without lists there is nothing to own -/
theorem RO.lf : ∀ (d : D) (n m : Nat) (v : V) (o s : List Addr), lf d = true → RO c H d n v o s → o = [] ∧ s = [] ∧ RO c H d m v [] []
  | .none, _, _, _, _, _, _, h => by rw [RO] at h; exact ⟨h.2.1, h.2.2, by rw [RO]; exact ⟨h.1, rfl, rfl⟩⟩
  | .bool b, _, _, _, _, _, _, h => by rw [RO] at h; exact ⟨h.2.1, h.2.2, by rw [RO]; exact ⟨h.1, rfl, rfl⟩⟩
  | .int i, _, _, _, _, _, _, h => by rw [RO] at h; exact ⟨h.2.1, h.2.2, by rw [RO]; exact ⟨h.1, rfl, rfl⟩⟩
  | .str x, _, _, _, _, _, _, h => by rw [RO] at h; exact ⟨h.2.1, h.2.2, by rw [RO]; exact ⟨h.1, rfl, rfl⟩⟩
  | .dict kvs, _, _, _, _, _, l, h => by simp [QQ.lf] at l
  | .tuple ds, n, m, v, o, s, l, h => by
    rw [RO] at h
    obtain ⟨a, vs, e, q, r⟩ := h
    obtain ⟨h1, h2, h3⟩ := ROs.lf ds n m vs o s (by rw [QQ.lf] at l; exact l) r
    exact ⟨h1, h2, by rw [RO]; exact ⟨a, vs, e, q, h3⟩⟩
  | .list ds, _, _, _, _, _, l, h => by simp [QQ.lf] at l
theorem ROs.lf : ∀ (ds : List D) (n m : Nat) (vs : List V) (o s : List Addr), lfs ds = true → ROs c H ds n vs o s → o = [] ∧ s = [] ∧ ROs c H ds m vs [] []
  | [], _, _, _, _, _, _, h => by rw [ROs] at h; exact ⟨h.2.1, h.2.2, by rw [ROs]; exact ⟨h.1, rfl, rfl⟩⟩
  | d :: ds, n, m, vs, o, s, l, h => by
    rw [ROs] at h
    obtain ⟨v, vs', o1, s1, o2, s2, e, r1, r2, eo, es⟩ := h
    subst eo es
    rw [lfs, Bool.and_eq_true] at l
    obtain ⟨a1, b1, c1⟩ := RO.lf d n m v o1 s1 l.1 r1
    obtain ⟨a2, b2, c2⟩ := ROs.lf ds n m vs' o2 s2 l.2 r2
    subst a1 b1 a2 b2
    exact ⟨rfl, rfl, by rw [ROs]; exact ⟨v, vs', [], [], [], [], e, c1, c2, rfl, rfl⟩⟩
end
theorem ROs.all {P : D → Bool} {n : Nat} (hp : ∀ (d : D) (v : V) (o s : List Addr), P d = true → RO c H d n v o s → s = []) : ∀ (ds : List D) (vs : List V) (o s : List Addr), ds.all P = true → ROs c H ds n vs o s → s = []
  | [], _, _, _, _, h => by rw [ROs] at h; exact h.2.2
  | d :: ds, vs, o, s, l, h => by
    rw [ROs] at h
    obtain ⟨v, vs', o1, s1, o2, s2, e, r1, r2, eo, es⟩ := h
    subst es
    rw [List.all_cons, Bool.and_eq_true] at l
    rw [hp d v o1 s1 l.1 r1, ROs.all hp ds vs' o2 s2 l.2 r2]; rfl
theorem RO.full : ∀ (n : Nat) (d : D) (v : V) (o s : List Addr), full n d = true → RO c H d n v o s → s = []
  | 0, d, v, o, s, l, h => (RO.lf d 0 0 v o s l h).2.1
  | n + 1, .list ds, v, o, s, l, h => by
    rw [RO] at h
    obtain ⟨a, vs, e, q, o', r, eo⟩ := h
    exact ROs.all (fun d v o s => RO.full n d v o s) ds vs o' s l r
  | n + 1, .none, v, o, s, l, h => (RO.lf _ _ 0 v o s l h).2.1
  | n + 1, .bool _, v, o, s, l, h => (RO.lf _ _ 0 v o s l h).2.1
  | n + 1, .int _, v, o, s, l, h => (RO.lf _ _ 0 v o s l h).2.1
  | n + 1, .str _, v, o, s, l, h => (RO.lf _ _ 0 v o s l h).2.1
  | n + 1, .tuple _, v, o, s, l, h => (RO.lf _ _ 0 v o s l h).2.1
  | n + 1, .dict _, v, o, s, l, h => (RO.lf _ _ 0 v o s l h).2.1
/- what is ours, what is not: lists (a dict may be not ours) that stand in H -/
mutual
theorem RO.at : ∀ (d : D) (n : Nat) (v : V) (o s : List Addr), RO c H d n v o s → (∀ a, a ∈ o → ∃ xs, H a = some (.lst xs)) ∧ ∀ a, a ∈ s → ∃ x, H a = some x ∧ fixO x = false ∧ ∀ ps, x ≠ .tbl ps
  | .none, _, _, _, _, h => by rw [RO] at h; obtain ⟨_, rfl, rfl⟩ := h; exact ⟨by simp, by simp⟩
  | .bool b, _, _, _, _, h => by rw [RO] at h; obtain ⟨_, rfl, rfl⟩ := h; exact ⟨by simp, by simp⟩
  | .int i, _, _, _, _, h => by rw [RO] at h; obtain ⟨_, rfl, rfl⟩ := h; exact ⟨by simp, by simp⟩
  | .str x, _, _, _, _, h => by rw [RO] at h; obtain ⟨_, rfl, rfl⟩ := h; exact ⟨by simp, by simp⟩
  | .dict kvs, _, _, _, _, h => by
    rw [RO] at h
    unfold RD at h
    split at h
    · obtain ⟨a, _, q, rfl, rfl⟩ := h
      refine ⟨by simp, fun b hb => ?_⟩
      rw [List.mem_singleton] at hb
      subst hb
      exact ⟨_, q, rfl, fun ps z => by cases z⟩
    · obtain ⟨_, rfl, rfl⟩ := h; exact ⟨by simp, by simp⟩
    · obtain ⟨rfl, rfl, _⟩ := h; exact ⟨by simp, by simp⟩
    · obtain ⟨_, rfl, rfl⟩ := h; exact ⟨by simp, by simp⟩
    · exact h.elim
  | .tuple ds, n, v, o, s, h => by
    rw [RO] at h
    obtain ⟨a, vs, e, q, r⟩ := h
    exact ROs.at ds n vs o s r
  | .list ds, 0, v, o, s, h => by
    rw [RO] at h
    obtain ⟨a, vs, e, q, s', r, es⟩ := h
    subst es
    obtain ⟨h1, h2⟩ := ROs.at ds 0 vs o s' r
    refine ⟨h1, fun b hb => ?_⟩
    rcases List.mem_cons.mp hb with rfl | hb
    · exact ⟨_, q, rfl, fun ps z => by cases z⟩
    · exact h2 b hb
  | .list ds, m + 1, v, o, s, h => by
    rw [RO] at h
    obtain ⟨a, vs, e, q, o', r, eo⟩ := h
    subst eo
    obtain ⟨h1, h2⟩ := ROs.at ds m vs o' s r
    refine ⟨fun b hb => ?_, h2⟩
    rcases List.mem_cons.mp hb with rfl | hb
    · exact ⟨_, q⟩
    · exact h1 b hb
theorem ROs.at : ∀ (ds : List D) (n : Nat) (vs : List V) (o s : List Addr), ROs c H ds n vs o s → (∀ a, a ∈ o → ∃ xs, H a = some (.lst xs)) ∧ ∀ a, a ∈ s → ∃ x, H a = some x ∧ fixO x = false ∧ ∀ ps, x ≠ .tbl ps
  | [], _, _, _, _, h => by rw [ROs] at h; obtain ⟨_, rfl, rfl⟩ := h; exact ⟨by simp, by simp⟩
  | d :: ds, n, vs, o, s, h => by
    rw [ROs] at h
    obtain ⟨v, vs', o1, s1, o2, s2, e, r1, r2, eo, es⟩ := h
    subst eo es
    obtain ⟨h1, h2⟩ := RO.at d n v o1 s1 r1
    obtain ⟨h3, h4⟩ := ROs.at ds n vs' o2 s2 r2
    exact ⟨fun a ha => (List.mem_append.mp ha).elim (h1 a) (h3 a), fun a ha => (List.mem_append.mp ha).elim (h2 a) (h4 a)⟩
end
theorem ROs.len : ∀ (ds : List D) (n : Nat) (vs : List V) (o s : List Addr), ROs c H ds n vs o s → ds.length = vs.length
  | [], _, _, _, _, h => by rw [ROs] at h; rw [h.1]; rfl
  | d :: ds, n, vs, o, s, h => by
    rw [ROs] at h
    obtain ⟨v, vs', o1, s1, o2, s2, e, r1, r2, _, _⟩ := h
    rw [e, List.length_cons, List.length_cons, ROs.len ds n vs' o2 s2 r2]
/-- an item -/
theorem ROs.get : ∀ (ds : List D) (n : Nat) (vs : List V) (o s : List Addr), ROs c H ds n vs o s → ∀ (i : Nat) (d : D), ds[i]? = some d → ∃ v o' s', vs[i]? = some v ∧ RO c H d n v o' s' ∧ (∀ a, a ∈ o' → a ∈ o) ∧ (∀ a, a ∈ s' → a ∈ s)
  | [], _, _, _, _, _, i, d, hd => by simp at hd
  | d :: ds, n, vs, o, s, h, 0, d', hd => by
    rw [ROs] at h
    obtain ⟨v, vs', o1, s1, o2, s2, e, r1, r2, eo, es⟩ := h
    subst e eo es
    simp at hd
    subst hd
    exact ⟨v, o1, s1, rfl, r1, fun a ha => List.mem_append_left _ ha, fun a ha => List.mem_append_left _ ha⟩
  | d :: ds, n, vs, o, s, h, i + 1, d', hd => by
    rw [ROs] at h
    obtain ⟨v, vs', o1, s1, o2, s2, e, r1, r2, eo, es⟩ := h
    subst e eo es
    obtain ⟨v', o', s', e', r', h1, h2⟩ := ROs.get ds n vs' o2 s2 r2 i d' (by simpa using hd)
    exact ⟨v', o', s', by simpa using e', r', fun a ha => List.mem_append_right _ (h1 a ha), fun a ha => List.mem_append_right _ (h2 a ha)⟩
/- data for == -/
mutual
theorem RO.dp : ∀ (d : D) (n : Nat) (v : V) (o s : List Addr), d.canLay0 = true → RO c H d n v o s → Dp c.K H v d
  | .none, _, _, _, _, _, h => by rw [RO] at h; rw [h.1]; exact .non
  | .bool b, _, _, _, _, _, h => by rw [RO] at h; rw [h.1]; exact .bl b
  | .int i, _, _, _, _, _, h => by rw [RO] at h; rw [h.1]; exact .int i
  | .str x, _, _, _, _, _, h => by rw [RO] at h; rw [h.1]; exact .str x
  | .dict kvs, _, _, _, _, l, h => by simp [PyData.canLay0] at l
  | .tuple ds, n, v, o, s, l, h => by
    rw [RO] at h
    obtain ⟨a, vs, e, q, r⟩ := h
    subst e
    exact .tup q.1 (ROs.dp ds n vs o s (by simpa [PyData.canLay0] using l) r)
  | .list ds, 0, v, o, s, l, h => by
    rw [RO] at h
    obtain ⟨a, vs, e, q, s', r, es⟩ := h
    subst e
    exact .lst (SqL.of q) (ROs.dp ds 0 vs o s' (by simpa [PyData.canLay0] using l) r)
  | .list ds, m + 1, v, o, s, l, h => by
    rw [RO] at h
    obtain ⟨a, vs, e, q, o', r, eo⟩ := h
    subst e
    exact .lst (SqL.of q) (ROs.dp ds m vs o' s (by simpa [PyData.canLay0] using l) r)
theorem ROs.dp : ∀ (ds : List D) (n : Nat) (vs : List V) (o s : List Addr), PyData.canLayAll0 ds = true → ROs c H ds n vs o s → DpAll c.K H vs ds
  | [], _, _, _, _, _, h => by rw [ROs] at h; rw [h.1]; exact .nil
  | d :: ds, n, vs, o, s, l, h => by
    rw [ROs] at h
    obtain ⟨v, vs', o1, s1, o2, s2, e, r1, r2, eo, es⟩ := h
    subst e
    have l' : d.canLay0 = true ∧ PyData.canLayAll0 ds = true := by simpa [PyData.canLayAll0] using l
    exact .cons (RO.dp d n v o1 s1 l'.1 r1) (ROs.dp ds n vs' o2 s2 l'.2 r2)
end
theorem RO.list_sq {ds : List D} {n : Nat} {v : V} {o s : List Addr} (h : RO c H (.list ds) n v o s) : ∃ a vs, v = .ref a ∧ H a = some (.lst vs) ∧ ∃ o' s', ROs c H ds (n - 1) vs o' s' ∧ (∀ a, a ∈ o' → a ∈ o) ∧ (∀ a, a ∈ s' → a ∈ s) := by
  cases n with
  | zero =>
    rw [RO] at h
    obtain ⟨a, vs, e, q, s', r, es⟩ := h
    exact ⟨a, vs, e, q, o, s', r, fun _ h => h, fun b hb => by rw [es]; exact List.mem_cons_of_mem _ hb⟩
  | succ m =>
    rw [RO] at h
    obtain ⟨a, vs, e, q, o', r, eo⟩ := h
    exact ⟨a, vs, e, q, o', s, r, fun b hb => by rw [eo]; exact List.mem_cons_of_mem _ hb, fun _ h => h⟩
theorem RO.tup_sq {ds : List D} {n : Nat} {v : V} {o s : List Addr} (h : RO c H (.tuple ds) n v o s) : ∃ a vs, v = .ref a ∧ SqN c.K H a vs ∧ ROs c H ds n vs o s := by
  rw [RO] at h; exact h
theorem ROs.app : ∀ (xs ys : List D) (n : Nat) (vs ws : List V) (o s o2 s2 : List Addr), ROs c H xs n vs o s → ROs c H ys n ws o2 s2 → ROs c H (xs ++ ys) n (vs ++ ws) (o ++ o2) (s ++ s2)
  | [], ys, n, vs, ws, o, s, o2, s2, h, k => by
    rw [ROs] at h; obtain ⟨rfl, rfl, rfl⟩ := h; exact k
  | x :: xs, ys, n, vs, ws, o, s, o2, s2, h, k => by
    rw [ROs] at h
    obtain ⟨v, vs', o1, s1, o3, s3, e, r1, r2, eo, es⟩ := h
    subst e eo es
    rw [List.cons_append, ROs]
    exact ⟨v, vs' ++ ws, o1, s1, o3 ++ o2, s3 ++ s2, rfl, r1, ROs.app xs ys n vs' ws o3 s3 o2 s2 r2 k, by rw [List.append_assoc], by rw [List.append_assoc]⟩
end
end QQ
namespace QQ
open PySem L2

abbrev FP := Nat → List Addr
/-- where an address may come from: it is new, handed over, or of the arguments -/
def Src (c : Cb) (a : Addr) : Prop := c.H0 a = none ∨ a ∈ c.io
def SrcS (c : Cb) (a : Addr) : Prop := c.H0 a = none ∨ a ∈ c.io ∨ a ∈ c.ar
structure FR (c : Cb) (en : En) (σ : L2.St) (H : Hp) (fo fs : FP) : Prop where
  len : en.length = σ.length
  rel : ∀ (i : Nat) d n, en[i]? = some (some (d, n)) → ∃ v, σ[i]? = some (some v) ∧ RO c H d n v (fo i) (fs i)
  emp : ∀ i : Nat, (∀ p, en[i]? ≠ some (some p)) → fo i = [] ∧ fs i = []
  nd : ∀ i, (fo i).Nodup
  dj : ∀ i j a, a ∈ fo i → a ∉ fs j ∧ (i ≠ j → a ∉ fo j)
  so : ∀ i a, a ∈ fo i → Src c a
  ss : ∀ i a, a ∈ fs i → SrcS c a
  kp : ∀ a x, c.H0 a = some x → a ∉ c.io → (∀ ps, x ≠ .tbl ps) → H a = some x
  dm : ∀ a, c.H0 a ≠ none → H a ≠ none
  iov : ∀ p ∈ c.iov, σ[p.1]? = some (some p.2)
  tb : NdefX.TabsN c.tb H
/-- what a step leaves as it was; mu: the slots that it may change -/
structure Step (mu : List Nat) (en en' : En) (H H' : Hp) (fo fs fo' fs' : FP) : Prop where
  keep : ∀ a x, H a = some x → (∀ ps, x ≠ .tbl ps) → (∀ i, i ∈ mu → a ∉ fo i) → H' a = some x
  dom : ∀ a, H a ≠ none → H' a ≠ none
  oo : ∀ i a, a ∈ fo' i → a ∈ fo i ∨ (i ∈ mu ∧ (H a = none ∨ ∃ j, j ∈ mu ∧ a ∈ fo j))
  ss : ∀ i a, a ∈ fs' i → a ∈ fs i ∨ a ∈ fo i ∨ (i ∈ mu ∧ (H a = none ∨ ∃ j, a ∈ fo j ∨ a ∈ fs j))
  val : ∀ i : Nat, i ∉ mu → (en'[i]?.bind id).map Prod.fst = (en[i]?.bind id).map Prod.fst
  all : ∀ i, i ∉ mu → ∀ a, a ∈ fo i ∨ a ∈ fs i → a ∈ fo' i ∨ a ∈ fs' i
  dep : ∀ i : Nat, i ∉ mu → depthAt en' i ≤ depthAt en i

section
variable {mu mu' : List Nat} {en en1 en2 : En} {H H1 H2 : Hp} {fo fs fo1 fs1 fo2 fs2 : FP}
theorem Step.refl : Step mu en en H H fo fs fo fs :=
  ⟨fun _ _ e _ _ => e, fun _ h => h, fun _ _ h => .inl h, fun _ _ h => .inl h, fun _ _ => rfl, fun _ _ _ h => h, fun _ _ => Nat.le_refl _⟩
theorem Step.mono (s : Step mu en en1 H H1 fo fs fo1 fs1) (h : ∀ i, i ∈ mu → i ∈ mu') : Step mu' en en1 H H1 fo fs fo1 fs1 :=
  ⟨fun a x e t k => s.keep a x e t fun i hi => k i (h i hi), s.dom,
    fun i a q => (s.oo i a q).imp id fun ⟨p, r⟩ => ⟨h i p, r.imp id fun ⟨j, p, q⟩ => ⟨j, h j p, q⟩⟩,
    fun i a q => (s.ss i a q).imp id fun r => r.imp id fun ⟨p, r⟩ => ⟨h i p, r⟩,
    fun i hi => s.val i fun q => hi (h i q), fun i hi => s.all i fun q => hi (h i q), fun i hi => s.dep i fun q => hi (h i q)⟩
theorem Step.trans (s : Step mu en en1 H H1 fo fs fo1 fs1) (t : Step mu en1 en2 H1 H2 fo1 fs1 fo2 fs2) : Step mu en en2 H H2 fo fs fo2 fs2 where
  keep := fun a x e q k => by
    refine t.keep a x (s.keep a x e q k) q fun i hi z => ?_
    rcases s.oo i a z with z | ⟨_, z | ⟨j, hj, z⟩⟩
    · exact k i hi z
    · rw [e] at z; cases z
    · exact k j hj z
  dom := fun a h => t.dom a (s.dom a h)
  oo := fun i a z => by
    rcases t.oo i a z with z | ⟨hi, z | ⟨j, hj, z⟩⟩
    · exact s.oo i a z
    · refine .inr ⟨hi, .inl ?_⟩
      cases e : H a with
      | none => rfl
      | some x => exact absurd z (s.dom a (by rw [e]; simp))
    · refine .inr ⟨hi, ?_⟩
      rcases s.oo j a z with z | ⟨_, z⟩
      · exact .inr ⟨j, hj, z⟩
      · exact z
  ss := fun i a z => by
    have two : ∀ j, a ∈ fo1 j ∨ a ∈ fs1 j → H a = none ∨ ∃ k, a ∈ fo k ∨ a ∈ fs k := fun j z => by
      rcases z with z | z
      · rcases s.oo j a z with z | ⟨_, z | ⟨k, _, z⟩⟩
        · exact .inr ⟨j, .inl z⟩
        · exact .inl z
        · exact .inr ⟨k, .inl z⟩
      · rcases s.ss j a z with z | z | ⟨_, z⟩
        · exact .inr ⟨j, .inr z⟩
        · exact .inr ⟨j, .inl z⟩
        · exact z
    rcases t.ss i a z with z | z | ⟨hi, z | ⟨j, z⟩⟩
    · exact s.ss i a z
    · rcases s.oo i a z with z | ⟨hi, z | ⟨k, _, z⟩⟩
      · exact .inr (.inl z)
      · exact .inr (.inr ⟨hi, .inl z⟩)
      · exact .inr (.inr ⟨hi, .inr ⟨k, .inl z⟩⟩)
    · refine .inr (.inr ⟨hi, .inl ?_⟩)
      cases e : H a with
      | none => rfl
      | some x => exact absurd z (s.dom a (by rw [e]; simp))
    · exact .inr (.inr ⟨hi, two j z⟩)
  val := fun i hi => (t.val i hi).trans (s.val i hi)
  all := fun i hi a z => t.all i hi a (s.all i hi a z)
  dep := fun i hi => Nat.le_trans (t.dep i hi) (s.dep i hi)
theorem Step.seq {m1 m2 : List Nat} (s : Step m1 en en1 H H1 fo fs fo1 fs1) (t : Step m2 en1 en2 H1 H2 fo1 fs1 fo2 fs2) : Step (m1 ++ m2) en en2 H H2 fo fs fo2 fs2 :=
  (s.mono fun _ h => List.mem_append_left _ h).trans (t.mono fun _ h => List.mem_append_right _ h)
/-- what is new behind is new ahead -/
theorem Step.new (s : Step mu en en1 H H1 fo fs fo1 fs1) {a : Addr} (h : H1 a = none) : H a = none := by
  cases e : H a with
  | none => rfl
  | some x => exact absurd h (s.dom a (by rw [e]; simp))
end

/-- a value by itself: o is ours, nobody else's -/
structure Own (c : Cb) (H : Hp) (fo fs : FP) (d : D) (n : Nat) (v : V) (o s : List Addr) : Prop where
  ro : RO c H d n v o s
  nd : o.Nodup
  os : ∀ a, a ∈ o → a ∉ s
  of : ∀ a, a ∈ o → ∀ i, a ∉ fo i ∧ a ∉ fs i
  sf : ∀ a, a ∈ s → ∀ i, a ∉ fo i
  so : ∀ a, a ∈ o → Src c a
  ss : ∀ a, a ∈ s → SrcS c a
/-- a value as the evaluator gives it -/
def TV (c : Cb) (en : En) (σ : L2.St) (H : Hp) (fo fs : FP) (r : D × Kd) (v : V) (o s : List Addr) : Prop := match r.2 with
  | .own n => Own c H fo fs r.1 n v o s
  | .root i m w => o = [] ∧ s = [] ∧ (∃ o0 s0, RO c H r.1 m v o0 s0 ∧ (∀ a, a ∈ o0 → a ∈ fo i ∨ a ∈ fs i) ∧ ∀ a, a ∈ s0 → (a ∈ fo i ∨ a ∈ fs i) ∧ ∀ j, a ∉ fo j) ∧
      (w = true → (en[i]?.bind id).map Prod.fst = some r.1 ∧ σ[i]? = some (some v))
/-- where it comes from: H, fo, fs are those ahead of it -/
def New (mu : List Nat) (H : Hp) (fo fs : FP) (o s : List Addr) : Prop :=
  (∀ a, a ∈ o → H a = none ∨ ∃ j, j ∈ mu ∧ a ∈ fo j) ∧ ∀ a, a ∈ s → H a = none ∨ ∃ j, a ∈ fo j ∨ a ∈ fs j
def TVs (c : Cb) (en : En) (σ : L2.St) (H : Hp) (fo fs : FP) : List (D × Kd) → List V → List Addr → List Addr → Prop
  | [], vs, O, S => vs = [] ∧ O = [] ∧ S = []
  | r :: rs, vs, O, S => ∃ v vs' o s O' S', vs = v :: vs' ∧ TV c en σ H fo fs r v o s ∧ TVs c en σ H fo fs rs vs' O' S' ∧ O = o ++ O' ∧ S = s ++ S' ∧ (∀ a, a ∈ o → a ∉ O' ∧ a ∉ S') ∧ ∀ a, a ∈ s → a ∉ O'

section
variable {c : Cb} {mu mu' : List Nat} {en en1 en2 : En} {σ : L2.St} {H H1 H2 : Hp} {fo fs fo1 fs1 fo2 fs2 : FP}
theorem New.nil {mu : List Nat} : New mu H fo fs [] [] := ⟨by simp, by simp⟩
theorem New.mono {o s : List Addr} (n : New mu H fo fs o s) (h : ∀ i, i ∈ mu → i ∈ mu') : New mu' H fo fs o s :=
  ⟨fun a ha => (n.1 a ha).imp id fun ⟨j, p, q⟩ => ⟨j, h j p, q⟩, n.2⟩
theorem New.app {o s o' s' : List Addr} (n : New mu H fo fs o s) (m : New mu H fo fs o' s') : New mu H fo fs (o ++ o') (s ++ s') :=
  ⟨fun a ha => (List.mem_append.mp ha).elim (n.1 a) (m.1 a), fun a ha => (List.mem_append.mp ha).elim (n.2 a) (m.2 a)⟩
/-- the new of a later step is new to an earlier start -/
theorem New.back {o s : List Addr} (st : Step mu en en1 H H1 fo fs fo1 fs1) (n : New mu' H1 fo1 fs1 o s) (h : ∀ i, i ∈ mu → i ∈ mu') : New mu' H fo fs o s :=
  ⟨fun a ha => by
    rcases n.1 a ha with z | ⟨j, hj, z⟩
    · exact .inl (st.new z)
    · rcases st.oo j a z with z | ⟨_, z | ⟨k, hk, z⟩⟩
      · exact .inr ⟨j, hj, z⟩
      · exact .inl z
      · exact .inr ⟨k, h k hk, z⟩,
   fun a ha => by
    rcases n.2 a ha with z | ⟨j, z | z⟩
    · exact .inl (st.new z)
    · rcases st.oo j a z with z | ⟨_, z | ⟨k, hk, z⟩⟩
      · exact .inr ⟨j, .inl z⟩
      · exact .inl z
      · exact .inr ⟨k, .inl z⟩
    · rcases st.ss j a z with z | z | ⟨_, z⟩
      · exact .inr ⟨j, .inr z⟩
      · exact .inr ⟨j, .inl z⟩
      · exact z⟩
/-- tuples and locked things are nobody's list -/
theorem FR.notFix (F : FR c en σ H fo fs) {a : Addr} {x : HO} {i : Nat} (ha : a ∈ fo i) (e : H a = some x) : fixO x = false := by
  cases hp : en[i]? with
  | none =>
    rw [(F.emp i (by rw [hp]; simp)).1] at ha
    cases ha
  | some q =>
    cases q with
    | none =>
      rw [(F.emp i (by rw [hp]; simp)).1] at ha
      cases ha
    | some q =>
      obtain ⟨d, n⟩ := q
      obtain ⟨v, _, r⟩ := F.rel i d n hp
      obtain ⟨xs, h⟩ := (RO.at d n v _ _ r).1 a ha
      rw [e] at h
      cases h
      rfl
theorem fixO_tbl {x : HO} (h : fixO x = true) : ∀ ps, x ≠ .tbl ps := fun ps z => by subst z; cases h
/-- a datum stays over a step that changes none of its lists -/
theorem Step.stab (st : Step mu en en1 H H1 fo fs fo1 fs1) (F : FR c en σ H fo fs) {L : List Addr} (hL : ∀ a, a ∈ L → (∀ x, H a = some x → ∀ ps, x ≠ .tbl ps) ∧ ∀ i, i ∈ mu → a ∉ fo i) : Stab H H1 L := fun a x e h => by
  rcases h with h | h
  · exact st.keep a x e (fixO_tbl h) fun i _ hi => by rw [F.notFix hi e] at h; cases h
  · exact st.keep a x e ((hL a h).1 x e) (hL a h).2
theorem RO.noTbl {d : D} {n : Nat} {v : V} {o s : List Addr} (r : RO c H d n v o s) : ∀ a, a ∈ o ++ s → ∀ x, H a = some x → ∀ ps, x ≠ .tbl ps := fun a ha x e ps z => by
  rcases List.mem_append.mp ha with h | h
  · obtain ⟨xs, q⟩ := (RO.at d n v o s r).1 a h
    rw [e, z] at q; cases q
  · obtain ⟨y, q, _, t⟩ := (RO.at d n v o s r).2 a h
    rw [e] at q; cases q
    exact t ps z
theorem RO.some_o {d : D} {n : Nat} {v : V} {o s : List Addr} (r : RO c H d n v o s) {a : Addr} (ha : a ∈ o) : H a ≠ none := by
  obtain ⟨xs, q⟩ := (RO.at d n v o s r).1 a ha
  rw [q]; simp
theorem RO.some_s {d : D} {n : Nat} {v : V} {o s : List Addr} (r : RO c H d n v o s) {a : Addr} (ha : a ∈ s) : H a ≠ none := by
  obtain ⟨x, q, _⟩ := (RO.at d n v o s r).2 a ha
  rw [q]; simp
/-- an own value waits over a step -/
theorem Own.carry {d : D} {n : Nat} {v : V} {o s : List Addr} (w : Own c H1 fo1 fs1 d n v o s) (F : FR c en1 σ H1 fo1 fs1) (st : Step mu en1 en2 H1 H2 fo1 fs1 fo2 fs2) : Own c H2 fo2 fs2 d n v o s where
  ro := RO.stab d n v o s w.ro (st.stab F fun a ha => ⟨w.ro.noTbl a ha, fun i _ z => by
    rcases List.mem_append.mp ha with h | h
    · exact (w.of a h i).1 z
    · exact w.sf a h i z⟩)
  nd := w.nd
  os := w.os
  of := fun a ha i => ⟨fun z => by
      rcases st.oo i a z with z | ⟨_, z | ⟨j, _, z⟩⟩
      · exact (w.of a ha i).1 z
      · exact w.ro.some_o ha z
      · exact (w.of a ha j).1 z, fun z => by
      rcases st.ss i a z with z | z | ⟨_, z | ⟨j, z | z⟩⟩
      · exact (w.of a ha i).2 z
      · exact (w.of a ha i).1 z
      · exact w.ro.some_o ha z
      · exact (w.of a ha j).1 z
      · exact (w.of a ha j).2 z⟩
  sf := fun a ha i z => by
    rcases st.oo i a z with z | ⟨_, z | ⟨j, _, z⟩⟩
    · exact w.sf a ha i z
    · exact w.ro.some_s ha z
    · exact w.sf a ha j z
  so := w.so
  ss := w.ss
theorem TV.carry {r : D × Kd} {v : V} {o s : List Addr} (w : TV c en1 σ H1 fo1 fs1 r v o s) (F : FR c en1 σ H1 fo1 fs1) (st : Step mu en1 en2 H1 H2 fo1 fs1 fo2 fs2) (p : pend r mu = true) : TV c en2 σ H2 fo2 fs2 r v o s := by
  obtain ⟨d, k⟩ := r
  cases k with
  | own n => exact Own.carry w F st
  | root i m b =>
    obtain ⟨eo, es, ⟨o0, s0, q, ho, hs⟩, hw⟩ := w
    refine ⟨eo, es, ?_⟩
    have p' : (!mu.contains i || (lf d && !b)) = true := p
    by_cases hi : i ∈ mu
    · have hl : lf d = true ∧ b = false := by
        have hc : mu.contains i = true := by simpa using hi
        simpa [hc, hi] using p'
      obtain ⟨_, _, q'⟩ := RO.lf d m m v o0 s0 hl.1 q
      exact ⟨⟨[], [], RO.stab d m v [] [] q' (st.stab F fun a ha => absurd ha (by simp)), by simp, by simp⟩, fun z => by rw [hl.2] at z; cases z⟩
    · refine ⟨⟨o0, s0, RO.stab d m v o0 s0 q (st.stab F fun a ha => ⟨q.noTbl a ha, fun j hj z => ?_⟩), fun a ha => st.all i hi a (ho a ha), fun a ha => ⟨st.all i hi a (hs a ha).1, fun j z => ?_⟩⟩, fun z => ?_⟩
      · rcases List.mem_append.mp ha with h | h
        · rcases ho a h with h | h
          · exact (F.dj j i a z).2 (fun e => hi (e ▸ hj)) h
          · exact (F.dj j i a z).1 h
        · exact (hs a h).2 j z
      · rcases st.oo j a z with z | ⟨_, z | ⟨k, _, z⟩⟩
        · exact (hs a ha).2 j z
        · exact q.some_s ha z
        · exact (hs a ha).2 k z
      · exact ⟨(st.val i hi).trans (hw z).1, (hw z).2⟩
theorem TVs.carry : ∀ {rs : List (D × Kd)} {vs : List V} {O S : List Addr}, TVs c en1 σ H1 fo1 fs1 rs vs O S → FR c en1 σ H1 fo1 fs1 → Step mu en1 en2 H1 H2 fo1 fs1 fo2 fs2 → (∀ r, r ∈ rs → pend r mu = true) → TVs c en2 σ H2 fo2 fs2 rs vs O S
  | [], _, _, _, w, _, _, _ => w
  | r :: rs, _, _, _, ⟨v, vs', o, s, O', S', e, w, ws, eO, eS, d1, d2⟩, F, st, p =>
    ⟨v, vs', o, s, O', S', e, w.carry F st (p r (List.mem_cons_self ..)), TVs.carry ws F st fun r hr => p r (List.mem_cons_of_mem _ hr), eO, eS, d1, d2⟩
/-- what waits and what comes then have nothing in common -/
theorem Own.apart {d : D} {n : Nat} {v : V} {o s o2 s2 : List Addr} (w : Own c H1 fo1 fs1 d n v o s) (nw : New mu H1 fo1 fs1 o2 s2) : (∀ a, a ∈ o → a ∉ o2 ∧ a ∉ s2) ∧ ∀ a, a ∈ s → a ∉ o2 :=
  ⟨fun a ha => ⟨fun z => by
      rcases nw.1 a z with z | ⟨j, _, z⟩
      · exact w.ro.some_o ha z
      · exact (w.of a ha j).1 z, fun z => by
      rcases nw.2 a z with z | ⟨j, z | z⟩
      · exact w.ro.some_o ha z
      · exact (w.of a ha j).1 z
      · exact (w.of a ha j).2 z⟩, fun a ha z => by
    rcases nw.1 a z with z | ⟨j, _, z⟩
    · exact w.ro.some_s ha z
    · exact w.sf a ha j z⟩
theorem TV.apart {r : D × Kd} {v : V} {o s o2 s2 : List Addr} (w : TV c en1 σ H1 fo1 fs1 r v o s) (nw : New mu H1 fo1 fs1 o2 s2) : (∀ a, a ∈ o → a ∉ o2 ∧ a ∉ s2) ∧ ∀ a, a ∈ s → a ∉ o2 := by
  obtain ⟨d, k⟩ := r
  cases k with
  | own n => exact Own.apart w nw
  | root i m b =>
    obtain ⟨eo, es, _⟩ := w
    subst eo es
    exact ⟨by simp, by simp⟩
theorem RO.read {d : D} {n : Nat} {v : V} {o s : List Addr} (w : RO c H d n v o s) : ∃ s0, RO c H d 0 v [] s0 := by
  obtain ⟨o', s', q, _⟩ := RO.weak d n 0 v o s (Nat.zero_le _) w
  have e := RO.zero d v o' s' q
  subst e
  exact ⟨s', q⟩
/-- a value of either kind, read -/
theorem TV.read {r : D × Kd} {v : V} {o s : List Addr} (w : TV c en σ H fo fs r v o s) : ∃ s0, RO c H r.1 0 v [] s0 := by
  obtain ⟨d, k⟩ := r
  cases k with
  | own n => exact (show Own c H fo fs d n v o s from w).ro.read
  | root i m b =>
    obtain ⟨_, _, ⟨o0, s0, q, _⟩, _⟩ := w
    exact q.read
/-- an own value, less of it ours -/
theorem Own.weak {d : D} {n m : Nat} {v : V} {o s : List Addr} (w : Own c H fo fs d n v o s) (h : m ≤ n) (nw : New mu H1 fo1 fs1 o s) : ∃ o' s', Own c H fo fs d m v o' s' ∧ New mu H1 fo1 fs1 o' s' ∧ (∀ a, a ∈ o' → a ∈ o) ∧ ∀ a, a ∈ s' → a ∈ s ∨ a ∈ o := by
  obtain ⟨o', s', q, r, pr, ps⟩ := RO.weak d n m v o s h w.ro
  have nd := (pr.nodup_iff.mp w.nd)
  have i1 : ∀ a, a ∈ o' → a ∈ o := fun a ha => pr.mem_iff.mpr (List.mem_append_left _ ha)
  have i2 : ∀ a, a ∈ r → a ∈ o := fun a ha => pr.mem_iff.mpr (List.mem_append_right _ ha)
  have hs : ∀ a, a ∈ s' → a ∈ s ∨ a ∈ o := fun a ha => ((ps a).mp ha).imp id (i2 a)
  refine ⟨o', s', ⟨q, (List.nodup_append.mp nd).1, fun a ha z => ?_, fun a ha => w.of a (i1 a ha), fun a ha i => ?_, fun a ha => w.so a (i1 a ha), fun a ha => ?_⟩, ⟨fun a ha => nw.1 a (i1 a ha), fun a ha => ?_⟩, i1, hs⟩
  · rcases (ps a).mp z with z | z
    · exact w.os a (i1 a ha) z
    · exact (List.nodup_append.mp nd).2.2 a ha a z rfl
  · rcases hs a ha with h | h
    · exact w.sf a h i
    · exact (w.of a h i).1
  · rcases hs a ha with h | h
    · exact w.ss a h
    · exact (w.so a h).imp id .inl
  · rcases hs a ha with h | h
    · exact nw.2 a h
    · exact (nw.1 a h).imp id fun ⟨j, _, q⟩ => ⟨j, .inl q⟩
/-- a value without lists -/
theorem TV.lf {r : D × Kd} {v : V} {o s : List Addr} (w : TV c en σ H fo fs r v o s) (l : lf r.1 = true) (n : Nat) : Own c H fo fs r.1 n v [] [] := by
  obtain ⟨s0, q⟩ := w.read
  obtain ⟨_, _, q'⟩ := RO.lf r.1 0 n v [] s0 l q
  exact ⟨q', List.nodup_nil, by simp, by simp, by simp, by simp, by simp⟩
end
end QQ
namespace QQ
open PySem L2

/-- an exception as a datum: its class, its one attribute -/
def XR (c : Cb) (H : Hp) (x : D) (cls : Value) (d : Option Addr) (s : List Addr) : Prop := match x with
  | .dict [(.bool true, .int k)] => cls = .ref (c.ca k.toNat) ∧ d = none ∧ s = []
  | .dict [(.bool true, .int k), (.str f, w)] => cls = .ref (c.ca k.toNat) ∧ ∃ dx v, d = some dx ∧ H dx = some (.xd [(f, v)]) ∧ RO c H w 0 v [] s
  | _ => False
def XP (c : Cb) (W : WX) (σ : L2.St) (x : D) (e : En) : Prop :=
  ∀ cls d H' fo' fs' s, FR c e σ H' fo' fs' → XR c H' x cls d s → (∀ a, a ∈ s → (∀ i, a ∉ fo' i) ∧ SrcS c a) → W cls d σ H'
def Res {α : Type} (c : Cb) (W : WX) (σ : L2.St) (K : α → En → Prop) : Out α → Prop
  | .stuck => False
  | .ok a e => K a e
  | .exc x e => XP c W σ x e
/-- where a value is wanted -/
def KE (c : Cb) (σ : L2.St) (mu : List Nat) (en : En) (H : Hp) (fo fs : FP) (Q : VK) (r : D × Kd) (e : En) : Prop :=
  ∀ v H' fo' fs' o s, FR c e σ H' fo' fs' → Step mu en e H H' fo fs fo' fs' → TV c e σ H' fo' fs' r v o s → New mu H fo fs o s → Q v H'
def tE (c : Cb) (W : WX) (mu : List Nat) (den : En → Out (D × Kd)) : TE := fun σ H Q => ∃ en fo fs, FR c en σ H fo fs ∧ Res c W σ (KE c σ mu en H fo fs Q) (den en)
def KA (c : Cb) (σ : L2.St) (mu : List Nat) (en : En) (H : Hp) (fo fs : FP) (Q : List V → Hp → Prop) (rs : List (D × Kd)) (e : En) : Prop :=
  ∀ vs H' fo' fs' O S, FR c e σ H' fo' fs' → Step mu en e H H' fo fs fo' fs' → TVs c e σ H' fo' fs' rs vs O S → New mu H fo fs O S → Q vs H'
def tAr (c : Cb) (W : WX) (mu : List Nat) (den : En → Out (List (D × Kd))) : TA := fun σ H Q => ∃ en fo fs, FR c en σ H fo fs ∧ Res c W σ (KA c σ mu en H fo fs Q) (den en)
def KT (c : Cb) (σ : L2.St) (mu : List Nat) (en : En) (H : Hp) (fo fs : FP) (Q : Bool → Hp → Prop) (b : Bool) (e : En) : Prop :=
  ∀ H' fo' fs', FR c e σ H' fo' fs' → Step mu en e H H' fo fs fo' fs' → Q b H'
def tTs (c : Cb) (W : WX) (mu : List Nat) (den : En → Out Bool) : TT := fun σ H Q => ∃ en fo fs, FR c en σ H fo fs ∧ Res c W σ (KT c σ mu en H fo fs Q) (den en)

theorem _root_.L2.PE.imp {X : Cx} {e : Expr} {t t' : TE} (h : PE X e t) (i : ∀ σ H Q, t' σ H Q → t σ H Q) : PE X e t' := ⟨fun pins s σ H Q I q => h.run pins s σ H Q I (i σ H Q q)⟩
theorem _root_.L2.PT.imp {X : Cx} {e : Expr} {t t' : TT} (h : PT X e t) (i : ∀ σ H Q, t' σ H Q → t σ H Q) : PT X e t' := ⟨fun pins s σ H Q I q => h.run pins s σ H Q I (i σ H Q q)⟩
theorem _root_.L2.PW.imp {X : Cx} {e : Expr} {t t' : TT} (h : PW X e t) (i : ∀ σ H Q, t' σ H Q → t σ H Q) : PW X e t' := ⟨fun w pins s σ H Q I q => h.run w pins s σ H Q I (i σ H Q q)⟩
theorem _root_.L2.PA.imp {X : Cx} {es : List Expr} {t t' : TA} (h : PA X es t) (i : ∀ σ H Q, t' σ H Q → t σ H Q) : PA X es t' := ⟨fun p pins s σ H Q I q => h.run p pins s σ H Q I (i σ H Q q)⟩
theorem _root_.L2.PS.imp {X : Cx} {st : Stmt} {t t' : TS} (h : PS X st t) (i : ∀ D σ H, t' D σ H → t D σ H) : PS X st t' := ⟨fun pins s σ H D I q => h.run pins s σ H D I (i D σ H q)⟩
theorem _root_.L2.PSs.imp {X : Cx} {st : List Stmt} {t t' : TS} (h : PSs X st t) (i : ∀ D σ H, t' D σ H → t D σ H) : PSs X st t' := ⟨fun pins s σ H D I q => h.run pins s σ H D I (i D σ H q)⟩

section
variable {c : Cb} {W : WX} {mu mu' : List Nat} {en en1 en2 : En} {σ : L2.St} {H H1 H2 : Hp} {fo fs fo1 fs1 fo2 fs2 : FP}
/-- a part is asked first -/
theorem tE_seq {β : Type} {K : β → En → Prop} {den : En → Out (D × Kd)} {f : D × Kd → En → Out β} {Q : VK} (F : FR c en σ H fo fs) (h : Res c W σ K ((den en).bind f))
    (k : ∀ r e1, Res c W σ K (f r e1) → KE c σ mu en H fo fs Q r e1) : tE c W mu den σ H Q := by
  refine ⟨en, fo, fs, F, ?_⟩
  cases e : den en with
  | stuck => rw [e] at h; exact h
  | exc x e1 => rw [e] at h; exact h
  | ok r e1 => rw [e] at h; exact k r e1 h
theorem tA_seq {β : Type} {K : β → En → Prop} {den : En → Out (List (D × Kd))} {f : List (D × Kd) → En → Out β} {Q : List V → Hp → Prop} (F : FR c en σ H fo fs) (h : Res c W σ K ((den en).bind f))
    (k : ∀ r e1, Res c W σ K (f r e1) → KA c σ mu en H fo fs Q r e1) : tAr c W mu den σ H Q := by
  refine ⟨en, fo, fs, F, ?_⟩
  cases e : den en with
  | stuck => rw [e] at h; exact h
  | exc x e1 => rw [e] at h; exact h
  | ok r e1 => rw [e] at h; exact k r e1 h
theorem tT_seq {β : Type} {K : β → En → Prop} {den : En → Out Bool} {f : Bool → En → Out β} {Q : Bool → Hp → Prop} (F : FR c en σ H fo fs) (h : Res c W σ K ((den en).bind f))
    (k : ∀ r e1, Res c W σ K (f r e1) → KT c σ mu en H fo fs Q r e1) : tTs c W mu den σ H Q := by
  refine ⟨en, fo, fs, F, ?_⟩
  cases e : den en with
  | stuck => rw [e] at h; exact h
  | exc x e1 => rw [e] at h; exact h
  | ok r e1 => rw [e] at h; exact k r e1 h

/-! ### new objects -/
theorem stab_new {p : Addr} {x : HO} {L : List Addr} (hp : H p = none) : Stab H (upd H p x) L := fun a y e _ => by rw [upd_ne (ne_of_none e hp)]; exact e
theorem Step.laid {p : Addr} {x : HO} (hp : H p = none) : Step mu en en H (upd H p x) fo fs fo fs :=
  ⟨fun a y e _ _ => by rw [upd_ne (ne_of_none e hp)]; exact e, fun a h => by
      by_cases e : a = p
      · rw [e, upd_same]; simp
      · rw [upd_ne e]; exact h, fun _ _ h => .inl h, fun _ _ h => .inl h, fun _ _ => rfl, fun _ _ _ h => h, fun _ _ => Nat.le_refl _⟩
theorem FR.laid {p : Addr} {x : HO} (F : FR c en σ H fo fs) (hp : H p = none) : FR c en σ (upd H p x) fo fs :=
  ⟨F.len, fun i d n e => let ⟨v, h1, h2⟩ := F.rel i d n e; ⟨v, h1, RO.stab d n v _ _ h2 (stab_new hp)⟩, F.emp, F.nd, F.dj, F.so, F.ss,
    fun a y e h t => by
      have q := F.kp a y e h t
      rw [upd_ne (ne_of_none q hp)]; exact q,
    fun a h => by
      by_cases e : a = p
      · rw [e, upd_same]; simp
      · rw [upd_ne e]; exact F.dm a h, F.iov, F.tb.ext fun b o e => by rw [upd_ne (ne_of_none e hp)]; exact e⟩
theorem FR.newSrc (F : FR c en σ H fo fs) {p : Addr} (hp : H p = none) : Src c p := by
  refine .inl ?_
  cases e : c.H0 p with
  | none => rfl
  | some x => exact absurd hp (F.dm p (by rw [e]; simp))
/-- an address of a slot stands in H -/
theorem FR.there (F : FR c en σ H fo fs) {a : Addr} {i : Nat} (h : a ∈ fo i ∨ a ∈ fs i) : H a ≠ none := by
  cases hp : en[i]? with
  | none =>
    have e := F.emp i (by rw [hp]; simp)
    rw [e.1, e.2] at h
    simp at h
  | some q =>
    cases q with
    | none =>
      have e := F.emp i (by rw [hp]; simp)
      rw [e.1, e.2] at h
      simp at h
    | some q =>
      obtain ⟨d, n⟩ := q
      obtain ⟨v, _, r⟩ := F.rel i d n hp
      exact h.elim r.some_o r.some_s
/-- what nobody owns -/
def Sh (c : Cb) (fo : FP) (H0 : Hp) (fo0 fs0 : FP) (s : List Addr) : Prop := ∀ a, a ∈ s → (∀ j, a ∉ fo j) ∧ SrcS c a ∧ (H0 a = none ∨ ∃ j, a ∈ fo0 j ∨ a ∈ fs0 j)
theorem Sh.nil {H0 : Hp} {fo0 fs0 : FP} : Sh c fo H0 fo0 fs0 [] := fun _ h => absurd h (by simp)
theorem Sh.app {H0 : Hp} {fo0 fs0 : FP} {s t : List Addr} (h : Sh c fo H0 fo0 fs0 s) (k : Sh c fo H0 fo0 fs0 t) : Sh c fo H0 fo0 fs0 (s ++ t) := fun a ha => (List.mem_append.mp ha).elim (h a) (k a)
theorem Sh.sub {H0 : Hp} {fo0 fs0 : FP} {s t : List Addr} (h : Sh c fo H0 fo0 fs0 s) (k : ∀ a, a ∈ t → a ∈ s) : Sh c fo H0 fo0 fs0 t := fun a ha => h a (k a ha)
/-- a shared value -/
theorem Own.share {d : D} {v : V} {s : List Addr} {H0 : Hp} {fo0 fs0 : FP} (r : RO c H d 0 v [] s) (h : Sh c fo H0 fo0 fs0 s) : Own c H fo fs d 0 v [] s :=
  ⟨r, List.nodup_nil, by simp, by simp, fun a ha => (h a ha).1, by simp, fun a ha => (h a ha).2.1⟩
theorem New.share {s : List Addr} {H0 : Hp} {fo0 fs0 : FP} (h : Sh c fo H0 fo0 fs0 s) : New mu H0 fo0 fs0 [] s := ⟨by simp, fun a ha => (h a ha).2.2⟩
/-- atoms -/
theorem Own.atom {d : D} {v : V} {n : Nat} (r : RO c H d n v [] []) : Own c H fo fs d n v [] [] := ⟨r, List.nodup_nil, by simp, by simp, by simp, by simp, by simp⟩
/-- the end of a value: an atom, the heap as it is -/
theorem KE.atom {Q : VK} {d : D} {n : Nat} {v : V} (k : KE c σ mu en H fo fs Q (d, .own n) en1) (F : FR c en1 σ H1 fo1 fs1) (st : Step mu en en1 H H1 fo fs fo1 fs1) (r : RO c H1 d n v [] []) : Q v H1 :=
  k v H1 fo1 fs1 [] [] F st (Own.atom r) .nil
/-- a value and what its items are made of -/
def It (c : Cb) (H : Hp) (d : D) (v : V) (i : List Addr) : Prop :=
  (∀ xs, d = .list xs → ∃ a vs, v = .ref a ∧ H a = some (.lst vs) ∧ ROs c H xs 0 vs [] i) ∧ ((∀ xs, d ≠ .list xs) → RO c H d 0 v [] i)
/-- the items of a value that may stand in a new one -/
theorem TV.shared' {r : D × Kd} {v : V} {o s : List Addr} (w : TV c en1 σ H1 fo1 fs1 r v o s) (F : FR c en1 σ H1 fo1 fs1) (st : Step mu en en1 H H1 fo fs fo1 fs1) (nw : New mu' H fo fs o s) (hi : itemsOk r = true) :
    ∃ i, It c H1 r.1 v i ∧ Sh c fo1 H fo fs i ∧ ∀ a, a ∈ i → match r.2 with
      | .own _ => a ∈ o ∨ a ∈ s
      | .root i0 _ _ => (a ∈ fo1 i0 ∨ a ∈ fs1 i0) ∧ ∀ j, a ∉ fo1 j := by
  have src : ∀ (i : Nat) a, a ∈ fo1 i ∨ a ∈ fs1 i → SrcS c a ∧ (H a = none ∨ ∃ j, a ∈ fo j ∨ a ∈ fs j) := fun i a h => by
    rcases h with h | h
    · refine ⟨(F.so i a h).imp id .inl, ?_⟩
      rcases st.oo i a h with z | ⟨_, z | ⟨j, _, z⟩⟩
      · exact .inr ⟨i, .inl z⟩
      · exact .inl z
      · exact .inr ⟨j, .inl z⟩
    · refine ⟨F.ss i a h, ?_⟩
      rcases st.ss i a h with z | z | ⟨_, z⟩
      · exact .inr ⟨i, .inr z⟩
      · exact .inr ⟨i, .inl z⟩
      · exact z
  obtain ⟨d, k⟩ := r
  cases k with
  | own n =>
    have w' : Own c H1 fo1 fs1 d n v o s := w
    obtain ⟨o', s', w2, nw2, _, hq⟩ := w'.weak (Nat.zero_le n) nw
    have e0 := RO.zero d v o' s' w2.ro
    subst e0
    have sh : Sh c fo1 H fo fs s' := fun a ha => ⟨w2.sf a ha, w2.ss a ha, nw2.2 a ha⟩
    by_cases hl : ∃ xs, d = .list xs
    · obtain ⟨xs, rfl⟩ := hl
      obtain ⟨a, vs, ev, q, o1, s1, r1, h1, h2⟩ := w2.ro.list_sq
      have e1 := ROs.zero xs vs o1 s1 r1
      subst e1
      exact ⟨s1, ⟨fun ys e => by cases e; exact ⟨a, vs, ev, q, r1⟩, fun h => absurd rfl (h xs)⟩, sh.sub h2, fun a ha => (hq a (h2 a ha)).symm⟩
    · exact ⟨s', ⟨fun xs e => absurd ⟨xs, e⟩ hl, fun _ => w2.ro⟩, sh, fun a ha => (hq a ha).symm⟩
  | root i m b =>
    obtain ⟨_, _, ⟨o0, s0, q, ho, hs⟩, _⟩ := w
    by_cases hl : ∃ xs, d = .list xs
    · obtain ⟨xs, rfl⟩ := hl
      have hi2 : (decide (m ≤ 1) || lfs xs) = true := hi
      obtain ⟨a, vs, ev, q2, o1, s1, r1, h1, h2⟩ := q.list_sq
      by_cases hm : m ≤ 1
      · have hm0 : m - 1 = 0 := by omega
        rw [hm0] at r1
        have e1 := ROs.zero xs vs o1 s1 r1
        subst e1
        exact ⟨s1, ⟨fun ys e => by cases e; exact ⟨a, vs, ev, q2, r1⟩, fun h => absurd rfl (h xs)⟩, fun b hb => ⟨(hs b (h2 b hb)).2, src i b (hs b (h2 b hb)).1⟩, fun b hb => hs b (h2 b hb)⟩
      · have hl : lfs xs = true := by simpa [hm] using hi2
        obtain ⟨_, _, r2⟩ := ROs.lf xs (m - 1) 0 vs o1 s1 hl r1
        exact ⟨[], ⟨fun ys e => by cases e; exact ⟨a, vs, ev, q2, r2⟩, fun h => absurd rfl (h xs)⟩, Sh.nil, by simp⟩
    · have hl2 : QQ.lf d = true := by
        cases d <;> first | exact hi | exact absurd ⟨_, rfl⟩ hl
      obtain ⟨_, _, q'⟩ := RO.lf d m 0 v o0 s0 hl2 q
      exact ⟨[], ⟨fun xs e => absurd ⟨xs, e⟩ hl, fun _ => q'⟩, Sh.nil, by simp⟩
theorem TV.shared {r : D × Kd} {v : V} {o s : List Addr} (w : TV c en1 σ H1 fo1 fs1 r v o s) (F : FR c en1 σ H1 fo1 fs1) (st : Step mu en en1 H H1 fo fs fo1 fs1) (nw : New mu' H fo fs o s) (hi : itemsOk r = true) :
    ∃ i, It c H1 r.1 v i ∧ Sh c fo1 H fo fs i := let ⟨i, h1, h2, _⟩ := w.shared' F st nw hi; ⟨i, h1, h2⟩
/-- an answer: it is there, or it is a new list, a new tuple -/
def Mk (c : Cb) (H : Hp) (d : D) (L : List Addr) (Q : VK) : Prop :=
  (∀ v s, (∀ xs, d ≠ .list xs) → RO c H d 0 v [] s → (∀ a, a ∈ s → a ∈ L) → Q v H) ∧
  (∀ ds vs s p, d = .list ds → ROs c H ds 0 vs [] s → (∀ a, a ∈ s → a ∈ L) → H p = none → Q (.ref p) (upd H p (.lst vs))) ∧
  (∀ ds vs s, d = .tuple ds → ROs c H ds 0 vs [] s → (∀ a, a ∈ s → a ∈ L) → NewT H vs Q)
theorem ROs.laid {ds : List D} {n : Nat} {vs : List V} {o s : List Addr} {p : Addr} {x : HO} (r : ROs c H ds n vs o s) (hp : H p = none) : ROs c (upd H p x) ds n vs o s := ROs.stab ds n vs o s r (stab_new hp)
theorem RO.laid {d : D} {n : Nat} {v : V} {o s : List Addr} {p : Addr} {x : HO} (r : RO c H d n v o s) (hp : H p = none) : RO c (upd H p x) d n v o s := RO.stab d n v o s r (stab_new hp)
theorem ROs.some_s {ds : List D} {n : Nat} {vs : List V} {o s : List Addr} (r : ROs c H ds n vs o s) {a : Addr} (ha : a ∈ s) : H a ≠ none := by
  obtain ⟨x, q, _⟩ := (ROs.at ds n vs o s r).2 a ha
  rw [q]; simp
theorem ROs.some_o {ds : List D} {n : Nat} {vs : List V} {o s : List Addr} (r : ROs c H ds n vs o s) {a : Addr} (ha : a ∈ o) : H a ≠ none := by
  obtain ⟨x, q⟩ := (ROs.at ds n vs o s r).1 a ha
  rw [q]; simp
/-- a new list of what is asked for: ours to the depth m + 1 -/
theorem Own.newList {ds : List D} {m : Nat} {vs : List V} {o s : List Addr} {p : Addr} (F : FR c en1 σ H1 fo1 fs1) (r : ROs c H1 ds m vs o s) (hp : H1 p = none) (nd : o.Nodup) (os : ∀ a, a ∈ o → a ∉ s)
    (hof : ∀ a, a ∈ o → ∀ i, a ∉ fo1 i ∧ a ∉ fs1 i) (sf : ∀ a, a ∈ s → ∀ i, a ∉ fo1 i) (so : ∀ a, a ∈ o → Src c a) (ss : ∀ a, a ∈ s → SrcS c a) :
    Own c (upd H1 p (.lst vs)) fo1 fs1 (.list ds) (m + 1) (.ref p) (p :: o) s where
  ro := by rw [RO]; exact ⟨p, vs, rfl, upd_same, o, r.laid hp, rfl⟩
  nd := List.nodup_cons.mpr ⟨fun h => r.some_o h hp, nd⟩
  os := fun a ha => by
    rcases List.mem_cons.mp ha with e | ha
    · intro h; rw [e] at h; exact r.some_s h hp
    · exact os a ha
  of := fun a ha i => by
    rcases List.mem_cons.mp ha with e | ha
    · exact ⟨fun h => F.there (.inl h) (by rw [e]; exact hp), fun h => F.there (.inr h) (by rw [e]; exact hp)⟩
    · exact hof a ha i
  sf := sf
  so := fun a ha => by
    rcases List.mem_cons.mp ha with e | ha
    · rw [e]; exact F.newSrc hp
    · exact so a ha
  ss := ss
theorem Mk.of {Q : VK} {d : D} {L : List Addr} (k : KE c σ mu en H fo fs Q (d, .own (flagOf d 1)) en1) (F : FR c en1 σ H1 fo1 fs1) (st : Step mu en en1 H H1 fo fs fo1 fs1) (sh : Sh c fo1 H fo fs L) : Mk c H1 d L Q := by
  refine ⟨fun v s hn r hs => ?_, fun ds vs s p e r hs hp => ?_, fun ds vs s e r hs p o hp hd => ?_⟩
  · have ef : flagOf d 1 = 0 ∨ ∃ kvs, d = .dict kvs := by
      cases d with
      | list xs => exact absurd rfl (hn xs)
      | dict kvs => exact .inr ⟨kvs, rfl⟩
      | _ => exact .inl rfl
    have sh' := sh.sub hs
    rcases ef with ef | ⟨kvs, rfl⟩
    · rw [ef] at k
      exact k v H1 fo1 fs1 [] s F st (Own.share r sh') (New.share sh')
    · refine k v H1 fo1 fs1 [] s F st (?_ : Own c H1 fo1 fs1 _ 1 v [] s) (New.share sh')
      have w := Own.share (fs := fs1) r sh'
      exact ⟨by have q := w.ro; rw [RO] at q ⊢; exact q, w.nd, w.os, w.of, w.sf, w.so, w.ss⟩
  · subst e
    have sh' := sh.sub hs
    refine k (.ref p) _ fo1 fs1 [p] s (F.laid hp) (st.trans (Step.laid hp)) (Own.newList F r hp List.nodup_nil (by simp) (by simp) (fun a ha => (sh' a ha).1) (by simp) fun a ha => (sh' a ha).2.1) ⟨fun a ha => ?_, fun a ha => (sh' a ha).2.2⟩
    rw [List.mem_singleton] at ha
    rw [ha]
    exact .inl (st.new hp)
  · subst e
    have sh' := sh.sub hs
    refine k (.ref p) _ fo1 fs1 [] s (F.laid hp) (st.trans (Step.laid hp)) (Own.share (by rw [RO]; exact ⟨p, vs, rfl, SqN.of upd_same hd, r.laid hp⟩) sh') (New.share sh')
end
end QQ
namespace QQ
open PySem L2

theorem lim : (sizeLine : Nat) = LIM := by rw [sizeLine_eq]
def opB : BO → Operator
  | .add => .Add | .sub => .Sub | .mul => .Mult | .fdiv => .FloorDiv | .mod => .Mod | .pow => .Pow | .band => .BitAnd | .bor => .BitOr | .bxor => .BitXor | .shl => .LShift | .shr => .RShift
def opC : CP → CmpOp
  | .eq => .Eq | .ne => .NotEq | .lt => .Lt | .le => .LtE | .gt => .Gt | .ge => .GtE | .isin => .In | .notin => .NotIn

section
variable {c : Cb} {H : Hp} {v x y : V} {i s : List Addr} {Q : VK} {L : List Addr}
theorem It.int {n : Int} (h : It c H (.int n) v i) : v = .int n := by
  have r := h.2 (fun xs e => by cases e); rw [RO] at r; exact r.1
theorem It.str {n : Str} (h : It c H (.str n) v i) : v = .str n := by
  have r := h.2 (fun xs e => by cases e); rw [RO] at r; exact r.1
theorem It.bool {n : Bool} (h : It c H (.bool n) v i) : v = .bl n := by
  have r := h.2 (fun xs e => by cases e); rw [RO] at r; exact r.1
theorem It.tup {ds : List D} (h : It c H (.tuple ds) v i) : ∃ a vs, v = .ref a ∧ SqN c.K H a vs ∧ ROs c H ds 0 vs [] i := by
  have r := h.2 (fun xs e => by cases e); rw [RO] at r; exact r
theorem It.list {ds : List D} (h : It c H (.list ds) v i) : ∃ a vs, v = .ref a ∧ H a = some (.lst vs) ∧ ROs c H ds 0 vs [] i := h.1 ds rfl
theorem It.scr {ds : List D} (h : It c H (.dict [(.bool false, .list ds)]) v i) : ∃ (a : Addr) (ns : List Int), v = .ref a ∧ ds = ns.map PyData.int ∧ StL c.K H a (ns.map V.int) := by
  have r := h.2 (fun xs e => by cases e)
  rw [RO] at r
  have r' : [] = [] ∧ i = [] ∧ ∃ (a : Addr) (ns : List Int), v = .ref a ∧ ds = ns.map PyData.int ∧ StL c.K H a (ns.map V.int) := r
  exact r'.2.2
theorem It.read {d : D} (h : It c H d v i) : ∃ s, RO c H d 0 v [] s := by
  by_cases hl : ∃ xs, d = .list xs
  · obtain ⟨xs, rfl⟩ := hl
    obtain ⟨a, vs, e, q, r⟩ := h.list
    exact ⟨a :: i, by rw [RO]; exact ⟨a, vs, e, q, i, r, rfl⟩⟩
  · exact ⟨i, h.2 fun xs e => hl ⟨xs, e⟩⟩
theorem Mk.int {n : Int} (h : Mk c H (.int n) L Q) : Q (.int n) H := h.1 _ [] (fun xs e => by cases e) (by rw [RO]; exact ⟨rfl, rfl, rfl⟩) (by simp)
theorem Mk.str {n : Str} (h : Mk c H (.str n) L Q) : Q (.str n) H := h.1 _ [] (fun xs e => by cases e) (by rw [RO]; exact ⟨rfl, rfl, rfl⟩) (by simp)
theorem Mk.bool {n : Bool} (h : Mk c H (.bool n) L Q) : Q (.bl n) H := h.1 _ [] (fun xs e => by cases e) (by rw [RO]; exact ⟨rfl, rfl, rfl⟩) (by simp)
theorem Mk.none (h : Mk c H .none L Q) : Q .non H := h.1 _ [] (fun xs e => by cases e) (by rw [RO]; exact ⟨rfl, rfl, rfl⟩) (by simp)
theorem Mk.list {ds : List D} {vs : List V} {s : List Addr} (h : Mk c H (.list ds) L Q) (r : ROs c H ds 0 vs [] s) (hs : ∀ a, a ∈ s → a ∈ L) : ∀ p, H p = Option.none → Q (.ref p) (upd H p (.lst vs)) := fun p hp => h.2.1 ds vs s p rfl r hs hp
theorem Mk.tup {ds : List D} {vs : List V} {s : List Addr} (h : Mk c H (.tuple ds) L Q) (r : ROs c H ds 0 vs [] s) (hs : ∀ a, a ∈ s → a ∈ L) : NewT H vs Q := h.2.2 ds vs s rfl r hs
theorem Mk.tupOld {ds : List D} {a : Addr} {vs : List V} {s : List Addr} (h : Mk c H (.tuple ds) L Q) (q : SqN c.K H a vs) (r : ROs c H ds 0 vs [] s) (hs : ∀ a, a ∈ s → a ∈ L) : Q (.ref a) H :=
  h.1 _ s (fun xs e => by cases e) (by rw [RO]; exact ⟨a, vs, rfl, q, r⟩) hs
theorem ROs.len' {ds : List D} {n : Nat} {vs : List V} {o s : List Addr} (r : ROs c H ds n vs o s) : ds.length = vs.length := ROs.len ds n vs o s r
theorem ROs.nil_iff {ds : List D} {n : Nat} {vs : List V} {o s : List Addr} (r : ROs c H ds n vs o s) : vs = [] ↔ ds = [] := by
  have e := r.len'
  cases ds <;> cases vs <;> simp at e ⊢
theorem ROs.rep {ds : List D} {n : Nat} {vs : List V} (r : ROs c H ds n vs [] []) : ∀ k : Nat, ROs c H (List.replicate k ds).flatten n (List.replicate k vs).flatten [] []
  | 0 => by simp [ROs]
  | k + 1 => by
    rw [List.replicate_succ, List.replicate_succ, List.flatten_cons, List.flatten_cons]
    exact ROs.app _ _ _ _ _ [] [] [] [] r (ROs.rep r k)
end

section
variable {X : Cx} {c : Cb}
def rBin (c : Cb) (o : BO) : R2 := fun x y H Q => ∃ d1 d2 d i1 i2, It c H d1 x i1 ∧ It c H d2 y i2 ∧ binD o d1 d2 = some d ∧ Mk c H d (i1 ++ i2) Q
theorem op_bin (hK : X.K = c.K) (o : BO) : OpR X (binaryOp (opB o)) (rBin c o) := by
  intro pins s σ H x y v u Q I rx ry h
  obtain ⟨d1, d2, d, i1, i2, h1, h2, e, m⟩ := h
  have int2 : ∀ {f : Value → Value → Sem Value} {C : Int → Int → Prop} {g : Int → Int → V} {i j : Int}, OpR X f (rI C g) → It c H (.int i) x i1 → It c H (.int j) y i2 → C i j → Q (g i j) H → wpAny (model X.prog X.w) X.A (f v u) (EP X pins σ Q) X.xe s :=
    fun R h1 h2 hc q => R pins s σ H x y v u Q I rx ry ⟨_, _, h1.int, h2.int, hc, q⟩
  have int20 : ∀ {f : Value → Value → Sem Value} {g : Int → Int → V} {i j : Int}, OpR X f (rI0 g) → It c H (.int i) x i1 → It c H (.int j) y i2 → Q (g i j) H → wpAny (model X.prog X.w) X.A (f v u) (EP X pins σ Q) X.xe s :=
    fun R h1 h2 q => R pins s σ H x y v u Q I rx ry ⟨_, _, h1.int, h2.int, q⟩
  unfold binD at e
  split at e
  · cases e; exact int20 op_add h1 h2 m.int
  · split at e
    · rename_i hz; cases e
      exact op_add_str pins s σ H x y v u Q I rx ry ⟨_, _, h1.str, h2.str, by rw [lim]; exact hz, m.str⟩
    · cases e
  · split at e
    · rename_i hz; cases e
      obtain ⟨a, vs, ex, qa, r1⟩ := h1.list
      obtain ⟨b, ws, ey, qb, r2⟩ := h2.list
      refine op_cat pins s σ H x y v u Q I rx ry ⟨a, b, vs, ws, ex, ey, qa, qb, ?_, m.list (ROs.app _ _ _ _ _ _ _ _ _ r1 r2) fun _ h => h⟩
      rw [lim, ← r1.len', ← r2.len']; exact hz
    · cases e
  · split at e
    · rename_i hz; cases e
      obtain ⟨a, vs, ex, qa, r1⟩ := h1.tup
      obtain ⟨b, ws, ey, qb, r2⟩ := h2.tup
      rw [← hK] at qa qb
      refine op_catN pins s σ H x y v u Q I rx ry ⟨a, b, vs, ws, ex, ey, qa.1, qb.1, ?_, fun z => ?_, fun _ z => ?_, fun _ _ => m.tup (ROs.app _ _ _ _ _ _ _ _ _ r1 r2) fun _ h => h⟩
      · rw [lim, ← r1.len', ← r2.len']; exact hz
      · have e1 := r1.nil_iff.mp z
        subst e1
        exact m.tupOld (hK ▸ qb) r2 fun a ha => List.mem_append_right _ ha
      · have e2 := r2.nil_iff.mp z
        subst e2
        rw [List.append_nil] at m
        exact m.tupOld (hK ▸ qa) r1 fun a ha => List.mem_append_left _ ha
    · cases e
  · cases e; exact int20 op_sub h1 h2 m.int
  · split at e
    · rename_i hz; cases e
      refine int2 op_mul h1 h2 ?_ m.int
      simp only [Bool.or_eq_true, Bool.and_eq_true, decide_eq_true_eq] at hz
      exact hz
    · cases e
  · split at e
    · rename_i xs k hz; cases e
      simp only [Bool.and_eq_true, decide_eq_true_eq] at hz
      obtain ⟨⟨⟨k1, k2⟩, k3⟩, k4⟩ := hz
      obtain ⟨a, vs, ex, qa, r1⟩ := h1.list
      obtain ⟨_, e2, r1'⟩ := ROs.lf _ 0 0 _ _ _ k4 r1
      subst e2
      refine op_rep pins s σ H x y v u Q I rx ry ⟨a, k, vs, ex, h2.int, qa, by omega, by omega, ?_, m.list (ROs.rep r1' k.toNat) (by simp)⟩
      rw [lim, ← r1.len']; exact k3
    · cases e
  · split at e
    · rename_i hz; cases e
      simp only [Bool.and_eq_true, decide_eq_true_eq] at hz
      exact int2 op_fdiv h1 h2 hz m.int
    · cases e
  · split at e
    · rename_i hz; cases e
      exact int2 op_mod h1 h2 (of_decide_eq_true hz) m.int
    · cases e
  · split at e
    · rename_i hz; cases e
      simp only [Bool.and_eq_true, decide_eq_true_eq] at hz
      exact int2 op_pow h1 h2 ⟨hz.1.1, hz.1.2, hz.2⟩ m.int
    · cases e
  · split at e
    · rename_i hz; cases e
      simp only [Bool.and_eq_true, decide_eq_true_eq] at hz
      exact int2 op_shl h1 h2 ⟨hz.1.1, hz.1.2, hz.2⟩ m.int
    · cases e
  · split at e
    · rename_i hz; cases e
      exact int2 op_shr h1 h2 (of_decide_eq_true hz) m.int
    · cases e
  · cases e; exact int20 op_and h1 h2 m.int
  · cases e; exact int20 op_or h1 h2 m.int
  · cases e; exact int20 op_xor h1 h2 m.int
  · cases e
end

section
variable {c : Cb} {H : Hp}
theorem RO.shaped {d : D} {n : Nat} {v : V} {o s : List Addr} (r : RO c H d n v o s) (h : shp d = true) : Dp c.K H v d := RO.dp d n v o s (SeqAt.canLay_of_shaped h) r
theorem RO.intV {i : Int} {n : Nat} {v : V} {o s : List Addr} (r : RO c H (.int i) n v o s) : v = .int i := by rw [RO] at r; exact r.1
theorem RO.strV {i : Str} {n : Nat} {v : V} {o s : List Addr} (r : RO c H (.str i) n v o s) : v = .str i := by rw [RO] at r; exact r.1
theorem RO.blV {i : Bool} {n : Nat} {v : V} {o s : List Addr} (r : RO c H (.bool i) n v o s) : v = .bl i := by rw [RO] at r; exact r.1
theorem RO.nonV {n : Nat} {v : V} {o s : List Addr} (r : RO c H .none n v o s) : v = .non := by rw [RO] at r; exact r.1
theorem intsD_map : ∀ {xs : List D} {ns : List Int}, intsD xs = some ns → xs = ns.map PyData.int
  | [], ns, h => by
    have e : ([] : List Int) = ns := Option.some.inj h
    rw [← e]; rfl
  | .int i :: r, ns, h => by
    unfold intsD at h
    cases e : intsD r with
    | none => rw [e] at h; cases h
    | some ms =>
      rw [e] at h
      have h' : i :: ms = ns := Option.some.inj h
      rw [← h', intsD_map e]; rfl
  | .none :: _, _, h => by cases h
  | .bool _ :: _, _, h => by cases h
  | .str _ :: _, _, h => by cases h
  | .list _ :: _, _, h => by cases h
  | .tuple _ :: _, _, h => by cases h
  | .dict _ :: _, _, h => by cases h
theorem ROs.ints : ∀ {ns : List Int} {n : Nat} {vs : List V} {o s : List Addr}, ROs c H (ns.map PyData.int) n vs o s → vs = ns.map V.int
  | [], _, _, _, _, h => by rw [List.map_nil, ROs] at h; rw [h.1]; rfl
  | m :: ns, _, _, _, _, h => by
    rw [List.map_cons, ROs] at h
    obtain ⟨v, vs', o1, s1, o2, s2, e, r1, r2, _, _⟩ := h
    rw [e, r1.intV, ROs.ints r2]; rfl
theorem boolsD_map : ∀ {xs : List D} {ns : List Bool}, boolsD xs = some ns → xs = ns.map PyData.bool
  | [], ns, h => by
    have e : ([] : List Bool) = ns := Option.some.inj h
    rw [← e]; rfl
  | .bool i :: r, ns, h => by
    unfold boolsD at h
    cases e : boolsD r with
    | none => rw [e] at h; cases h
    | some ms =>
      rw [e] at h
      have h' : i :: ms = ns := Option.some.inj h
      rw [← h', boolsD_map e]; rfl
  | .none :: _, _, h => by cases h
  | .int _ :: _, _, h => by cases h
  | .str _ :: _, _, h => by cases h
  | .list _ :: _, _, h => by cases h
  | .tuple _ :: _, _, h => by cases h
  | .dict _ :: _, _, h => by cases h
theorem ROs.bools : ∀ {ns : List Bool} {n : Nat} {vs : List V} {o s : List Addr}, ROs c H (ns.map PyData.bool) n vs o s → vs = ns.map V.bl
  | [], _, _, _, _, h => by rw [List.map_nil, ROs] at h; rw [h.1]; rfl
  | m :: ns, _, _, _, _, h => by
    rw [List.map_cons, ROs] at h
    obtain ⟨v, vs', o1, s1, o2, s2, e, r1, r2, _, _⟩ := h
    rw [e, r1.blV, ROs.bools r2]; rfl
theorem RO.tupInts {xs : List D} {ns : List Int} {n : Nat} {v : V} {o s : List Addr} (e : intsD xs = some ns) (r : RO c H (.tuple xs) n v o s) : ∃ a, v = .ref a ∧ SqT c.K H a (ns.map V.int) := by
  rw [intsD_map e, RO] at r
  obtain ⟨a, vs, ev, q, r⟩ := r
  rw [r.ints] at q
  exact ⟨a, ev, q.1⟩
end
/-! ### the order of tuples of whole numbers -/
theorem lexAt_shift (e r : Nat → Bool) (z : Bool) : ∀ (k i : Nat), Ob.lexAt e r z (i + 1) k = Ob.lexAt (fun j => e (j + 1)) (fun j => r (j + 1)) z i k
  | 0, _ => rfl
  | k + 1, i => by rw [Ob.lexAt_succ, Ob.lexAt_succ, lexAt_shift e r z k (i + 1)]
theorem lexAt_gt : ∀ (ns ms : List Int), Ob.lexAt (fun j => decide (ns.getD j 0 = ms.getD j 0)) (fun j => decide (ms.getD j 0 < ns.getD j 0)) (decide (ns.length > ms.length)) 0 (min ns.length ms.length) = HT.lexLt ms ns
  | [], [] => rfl
  | [], _ :: _ => by simp [Ob.lexAt, HT.lexLt]
  | _ :: _, [] => by simp [Ob.lexAt, HT.lexLt]
  | n :: ns, m :: ms => by
    have ih := lexAt_gt ns ms
    rw [List.length_cons, List.length_cons, Nat.succ_min_succ, Ob.lexAt_succ, lexAt_shift, HT.lexLt_cons]
    have e1 : decide (ns.length + 1 > ms.length + 1) = decide (ns.length > ms.length) := by simp
    simp only [List.getD_cons_zero, List.getD_cons_succ] at ih ⊢
    rw [e1, ih]
    by_cases h : n = m
    · subst h; simp
    · have h' : ¬ m = n := fun z => h z.symm
      simp [h, h']
theorem lexAt_le : ∀ (ns ms : List Int), Ob.lexAt (fun j => decide (ns.getD j 0 = ms.getD j 0)) (fun j => decide (ns.getD j 0 ≤ ms.getD j 0)) (decide (ns.length ≤ ms.length)) 0 (min ns.length ms.length) = !HT.lexLt ms ns
  | [], [] => rfl
  | [], _ :: _ => by simp [Ob.lexAt, HT.lexLt]
  | _ :: _, [] => by simp [Ob.lexAt, HT.lexLt]
  | n :: ns, m :: ms => by
    have ih := lexAt_le ns ms
    rw [List.length_cons, List.length_cons, Nat.succ_min_succ, Ob.lexAt_succ, lexAt_shift, HT.lexLt_cons]
    have e1 : decide (ns.length + 1 ≤ ms.length + 1) = decide (ns.length ≤ ms.length) := by simp
    simp only [List.getD_cons_zero, List.getD_cons_succ] at ih ⊢
    rw [e1, ih]
    by_cases h : n = m
    · subst h; simp
    · have h' : ¬ m = n := fun z => h z.symm
      simp only [h, h', decide_false, Bool.false_eq_true, if_false]
      by_cases g : m < n
      · have g' : ¬ n ≤ m := by omega
        simp [g, g']
      · have g' : n ≤ m := by omega
        simp [g, g']
theorem lexAt_ge : ∀ (ns ms : List Int), Ob.lexAt (fun j => decide (ns.getD j 0 = ms.getD j 0)) (fun j => decide (ms.getD j 0 ≤ ns.getD j 0)) (decide (ns.length ≥ ms.length)) 0 (min ns.length ms.length) = !HT.lexLt ns ms
  | [], [] => rfl
  | [], _ :: _ => by simp [Ob.lexAt, HT.lexLt]
  | _ :: _, [] => by simp [Ob.lexAt, HT.lexLt]
  | n :: ns, m :: ms => by
    have ih := lexAt_ge ns ms
    rw [List.length_cons, List.length_cons, Nat.succ_min_succ, Ob.lexAt_succ, lexAt_shift, HT.lexLt_cons]
    have e1 : decide (ns.length + 1 ≥ ms.length + 1) = decide (ns.length ≥ ms.length) := by simp
    simp only [List.getD_cons_zero, List.getD_cons_succ] at ih ⊢
    rw [e1, ih]
    by_cases h : n = m
    · subst h; simp
    · simp only [h, decide_false, Bool.false_eq_true, if_false]
      by_cases g : n < m
      · have g' : ¬ m ≤ n := by omega
        simp [g, g']
      · have g' : m ≤ n := by omega
        simp [g, g']
section
variable {X : Cx} {pins : List (Addr × Obj)} {s : Shared} {σ : L2.St} {H : Hp}
/-- two tuples of whole numbers, compared -/
theorem tupOps (I : Inv X pins σ H s) (hu : X.A.units < cLine) {a b : Addr} {ns ms : List Int} (ha : SqT X.K H a (ns.map V.int)) (hb : SqT X.K H b (ms.map V.int)) :
    Ob.RcOp .Gt X.A s (.ref a) (.ref b) (HT.lexLt ms ns) ∧ Ob.RcOp .LtE X.A s (.ref a) (.ref b) (!HT.lexLt ms ns) ∧ Ob.RcOp .GtE X.A s (.ref a) (.ref b) (!HT.lexLt ns ms) := by
  obtain ⟨its, r1, p1, _⟩ := I.tuple ha
  obtain ⟨its2, r2, p2, _⟩ := I.tuple hb
  have i1 : PyProof.Rows.IntsAre its ns := Vals.ints r1
  have i2 : PyProof.Rows.IntsAre its2 ms := Vals.ints r2
  have e1 : its.toArray.size = ns.length := by rw [List.size_toArray]; exact i1.length
  have e2 : its2.toArray.size = ms.length := by rw [List.size_toArray]; exact i2.length
  have at1 : ∀ j (h1 : j < its.toArray.size), ∃ t, its.toArray[j] = .int (ns.getD j 0) t := fun j h1 => PyProof.Rows.IntsAre.int_at i1 _ _ (by simp at h1; simp [h1])
  have at2 : ∀ j (h1 : j < its2.toArray.size), ∃ t, its2.toArray[j] = .int (ms.getD j 0) t := fun j h1 => PyProof.Rows.IntsAre.int_at i2 _ _ (by simp at h1; simp [h1])
  have eq : ∀ j (h1 : j < its.toArray.size) (h2 : j < its2.toArray.size), SeqAt.EqAt X.A.in1 s its.toArray[j] its2.toArray[j] (decide (ns.getD j 0 = ms.getD j 0)) := fun j h1 h2 => by
    obtain ⟨t, et⟩ := at1 j h1
    obtain ⟨t', et'⟩ := at2 j h2
    rw [et, et']
    have z : (ns.getD j 0 == ms.getD j 0) = decide (ns.getD j 0 = ms.getD j 0) := by
      by_cases q : ns.getD j 0 = ms.getD j 0
      · rw [decide_eq_true q]; exact beq_iff_eq.mpr q
      · rw [decide_eq_false q]; exact beq_eq_false_iff_ne.mpr q
    rw [← z]
    exact SeqAt.EqAt.int_int _ _ _ _
  refine ⟨?_, ?_, ?_⟩
  · have R := Ob.RcOp.tuples_gt (A := X.A) (s := s) (e := fun j => decide (ns.getD j 0 = ms.getD j 0)) (r := fun j => decide (ms.getD j 0 < ns.getD j 0)) p1 p2 hu eq (fun j h1 h2 _ => by
      obtain ⟨t, et⟩ := at1 j h1
      obtain ⟨t', et'⟩ := at2 j h2
      rw [et, et']
      exact Ob.RcOp.gt_int _ _ _ _)
    rw [e1, e2, lexAt_gt] at R
    exact R
  · have R := Ob.RcOp.tuples_le (A := X.A) (s := s) (e := fun j => decide (ns.getD j 0 = ms.getD j 0)) (r := fun j => decide (ns.getD j 0 ≤ ms.getD j 0)) p1 p2 hu eq (fun j h1 h2 _ => by
      obtain ⟨t, et⟩ := at1 j h1
      obtain ⟨t', et'⟩ := at2 j h2
      rw [et, et']
      exact Ob.RcOp.le_int _ _ _ _)
    rw [e1, e2, lexAt_le] at R
    exact R
  · have R := Ob.RcOp.tuples_ge (A := X.A) (s := s) (e := fun j => decide (ns.getD j 0 = ms.getD j 0)) (r := fun j => decide (ms.getD j 0 ≤ ns.getD j 0)) p1 p2 hu eq (fun j h1 h2 _ => by
      obtain ⟨t, et⟩ := at1 j h1
      obtain ⟨t', et'⟩ := at2 j h2
      rw [et, et']
      exact Ob.RcOp.ge_int _ _ _ _)
    rw [e1, e2, lexAt_ge] at R
    exact R
end
section
variable {X : Cx} {c : Cb}
theorem depth64 {d : D} (h : shp d = true) : d.depth ≤ 64 := SeqAt.depth_of_shaped h
def rCmp (c : Cb) (o : CP) : R2 := fun x y H Q => ∃ d1 d2 s1 s2 b, RO c H d1 0 x [] s1 ∧ RO c H d2 0 y [] s2 ∧ cmpD o d1 d2 = some b ∧ Q (.bl b) H
theorem op_cmp (hK : X.K = c.K) (hu : X.A.units + 80 < cLine) (o : CP) : OpR X (compareOp (opC o)) (rCmp c o) := by
  intro pins s σ H x y v u Q I rx ry h
  obtain ⟨d1, d2, s1, s2, b, r1, r2, e, q⟩ := h
  have hu65 : X.A.units + 65 < cLine := by omega
  have hu64 : X.A.units + 64 < cLine := by omega
  have hu0 : X.A.units < cLine := by omega
  have tups : ∀ {xs ys : List D} {ns ms : List Int}, intsD xs = some ns → intsD ys = some ms → RO c H (.tuple xs) 0 x [] s1 → RO c H (.tuple ys) 0 y [] s2 → ∃ a b, x = .ref a ∧ y = .ref b ∧ SqT X.K H a (ns.map V.int) ∧ SqT X.K H b (ms.map V.int) := fun e1 e2 r1 r2 => by
    obtain ⟨a, ex, qa⟩ := r1.tupInts e1
    obtain ⟨b, ey, qb⟩ := r2.tupInts e2
    exact ⟨a, b, ex, ey, hK ▸ qa, hK ▸ qb⟩
  cases o with
  | eq =>
    simp only [cmpD] at e
    split at e
    · rename_i hz; cases e
      rw [Bool.and_eq_true] at hz
      exact op_eqD hu64 pins s σ H x y v u Q I rx ry ⟨d1, d2, hK ▸ r1.shaped hz.1, hK ▸ r2.shaped hz.2, hz.1, hz.2, q⟩
    · cases e
  | ne =>
    simp only [cmpD] at e
    split at e
    · rename_i hz; cases e
      rw [Bool.and_eq_true] at hz
      exact op_neD hu64 pins s σ H x y v u Q I rx ry ⟨d1, d2, hK ▸ r1.shaped hz.1, hK ▸ r2.shaped hz.2, hz.1, hz.2, q⟩
    · cases e
  | lt =>
    simp only [cmpD] at e
    split at e
    · rename_i k hk; cases e
      unfold ordF at hk
      split at hk
      · cases hk; exact op_lt pins s σ H x y v u Q I rx ry ⟨_, _, r1.intV, r2.intV, q⟩
      · cases hk; exact op_lt_str pins s σ H x y v u Q I rx ry ⟨_, _, r1.strV, r2.strV, q⟩
      · split at hk
        · rename_i h1 h2; cases hk
          obtain ⟨a, b, ex, ey, qa, qb⟩ := tups h1 h2 r1 r2
          exact op_ltT hu0 pins s σ H x y v u Q I rx ry ⟨a, b, _, _, ex, ey, qa, qb, q⟩
        · cases hk
      · cases hk
    · split at e
      · rename_i hz; cases e
        unfold ltOk at hz
        simp only [Bool.and_eq_true, decide_eq_true_eq] at hz
        obtain ⟨⟨⟨z1, z2⟩, z3⟩, z4⟩ := hz
        have hn : d1 ≠ .none := fun z => by subst z; cases z4
        have z5 := depth64 z1
        obtain ⟨as, w1⟩ := Dp.reads I d1 x v (hK ▸ r1.shaped z1) rx
        obtain ⟨bs, w2⟩ := Dp.reads I d2 y u (hK ▸ r2.shaped z2) ry
        exact PySem.W.rcLt_alike d1 d2 X.A s v u as bs w1 w2 z3 hn (by omega) X.prog X.w _ _ ⟨.bl _, H, I, rfl, q⟩
      · cases e
  | gt =>
    simp only [cmpD] at e
    unfold ordF at e
    split at e
    · cases e; exact op_gt pins s σ H x y v u Q I rx ry ⟨_, _, r1.intV, r2.intV, q⟩
    · cases e; exact op_gt_str pins s σ H x y v u Q I rx ry ⟨_, _, r1.strV, r2.strV, q⟩
    · split at e
      · rename_i h1 h2; cases e
        obtain ⟨a, b, ex, ey, qa, qb⟩ := tups h2 h1 r1 r2
        subst ex ey
        cases rx; cases ry
        exact (tupOps I hu0 qa qb).1 X.prog X.w _ _ ⟨.bl _, H, I, rfl, q⟩
      · cases e
    · cases e
  | le =>
    simp only [cmpD] at e
    unfold ordF at e
    split at e
    · cases e; exact op_le pins s σ H x y v u Q I rx ry ⟨_, _, r1.intV, r2.intV, by
        rw [PySem.W.not_lt_int] at q; exact q⟩
    · cases e; exact op_le_str pins s σ H x y v u Q I rx ry ⟨_, _, r1.strV, r2.strV, q⟩
    · split at e
      · rename_i h1 h2; cases e
        obtain ⟨a, b, ex, ey, qa, qb⟩ := tups h2 h1 r1 r2
        subst ex ey
        cases rx; cases ry
        exact (tupOps I hu0 qa qb).2.1 X.prog X.w _ _ ⟨.bl _, H, I, rfl, q⟩
      · cases e
    · cases e
  | ge =>
    simp only [cmpD] at e
    unfold ordF at e
    split at e
    · cases e; exact op_ge pins s σ H x y v u Q I rx ry ⟨_, _, r1.intV, r2.intV, by
        rw [PySem.W.not_lt_int] at q; exact q⟩
    · cases e; exact op_ge_str pins s σ H x y v u Q I rx ry ⟨_, _, r1.strV, r2.strV, q⟩
    · split at e
      · rename_i h1 h2; cases e
        obtain ⟨a, b, ex, ey, qa, qb⟩ := tups h1 h2 r1 r2
        subst ex ey
        cases rx; cases ry
        exact (tupOps I hu0 qa qb).2.2 X.prog X.w _ _ ⟨.bl _, H, I, rfl, q⟩
      · cases e
    · cases e
  | isin =>
    unfold cmpD at e
    split at e
    · rename_i hn; cases hn
    · rename_i hn; cases hn
    · rename_i hn; cases hn
    · rename_i hn; cases hn
    · rename_i hn; cases hn
    · rename_i hn; cases hn
    · split at e
      · rename_i hz; cases e
        rw [Bool.and_eq_true] at hz
        exact op_inD hu65 pins s σ H x y v u Q I rx ry ⟨_, _, hK ▸ r1.shaped hz.1, hK ▸ r2.shaped hz.2, hz.1, hz.2, q⟩
      · cases e
    · split at e
      · rename_i hz; cases e
        rw [Bool.and_eq_true] at hz
        obtain ⟨as, w1⟩ := Dp.reads I _ x v (hK ▸ r1.shaped hz.1) rx
        obtain ⟨bs, w2⟩ := Dp.reads I _ y u (hK ▸ r2.shaped hz.2) ry
        exact SeqAt.in_tuple_reads w2 w1 (by have := SeqAt.canLay_of_shaped hz.2; simpa [PyData.canLay0] using this) (SeqAt.canLay_of_shaped hz.1) (PyProof.Rows.room_in_shaped hz.1 hu65) ⟨.bl _, H, I, rfl, q⟩
      · cases e
    · cases e
      exact op_in_str pins s σ H x y v u Q I rx ry ⟨_, _, r1.strV, r2.strV, q⟩
    all_goals first | (rename_i hn; cases hn; done) | cases e
  | notin =>
    unfold cmpD at e
    split at e
    · rename_i hn; cases hn
    · rename_i hn; cases hn
    · rename_i hn; cases hn
    · rename_i hn; cases hn
    · rename_i hn; cases hn
    · rename_i hn; cases hn
    · rename_i hn; cases hn
    · rename_i hn; cases hn
    · rename_i hn; cases hn
    · split at e
      · rename_i hz; cases e
        rw [Bool.and_eq_true] at hz
        exact op_notInD hu65 pins s σ H x y v u Q I rx ry ⟨_, _, hK ▸ r1.shaped hz.1, hK ▸ r2.shaped hz.2, hz.1, hz.2, q⟩
      · cases e
    · split at e
      · rename_i hz; cases e
        rw [Bool.and_eq_true] at hz
        obtain ⟨as, w1⟩ := Dp.reads I _ x v (hK ▸ r1.shaped hz.1) rx
        obtain ⟨bs, w2⟩ := Dp.reads I _ y u (hK ▸ r2.shaped hz.2) ry
        exact SeqAt.notIn_tuple_reads w2 w1 (by have := SeqAt.canLay_of_shaped hz.2; simpa [PyData.canLay0] using this) (SeqAt.canLay_of_shaped hz.1) (PyProof.Rows.room_in_shaped hz.1 hu65) ⟨.bl _, H, I, rfl, q⟩
      · cases e
    · cases e
      exact op_notin_str pins s σ H x y v u Q I rx ry ⟨_, _, r1.strV, r2.strV, q⟩
    all_goals first | (rename_i hn; cases hn; done) | cases e
end
end QQ
namespace QQ
open PySem L2

/-! ### is -/
section
variable {X : Cx} {c : Cb}
def constV : D → Option V
  | .none => some .non
  | .bool b => some (.bl b)
  | _ => none
def rIs (c : Cb) (ng : Bool) : R2 := fun x y H Q => ∃ d1 d2 s1 b, RO c H d1 0 x [] s1 ∧ constV d2 = some y ∧ isD d1 d2 = some b ∧ Q (.bl (if ng then !b else b)) H
theorem is_val {H : Hp} {d1 d2 : D} {x y : V} {v u : Value} {s1 : List Addr} {b : Bool} (r : RO c H d1 0 x [] s1) (k : constV d2 = some y) (e : isD d1 d2 = some b) (rx : RelV x v) (ry : RelV y u) : plainIs v u = true ∧ (v == u) = b := by
  have fin : ∀ {v u : Value}, plainIs v u = true → (v ≠ u ∧ b = false ∨ v = u ∧ b = true) → plainIs v u = true ∧ (v == u) = b := fun hp h => by
    refine ⟨hp, ?_⟩
    rcases h with ⟨h, e⟩ | ⟨h, e⟩
    · rw [e]; exact beq_eq_false_iff_ne.mpr h
    · rw [e, h]; exact beq_self_eq_true _
  have hy : u = .none ∧ d2 = .none ∨ ∃ k : Bool, u = .bool k ∧ d2 = .bool k := by
    unfold constV at k
    split at k
    · cases k; exact .inl ⟨ry, rfl⟩
    · rename_i z; cases k; exact .inr ⟨z, ry, rfl⟩
    · cases k
  have ref1 : ∀ {a : Addr}, v = .ref a → b = false → plainIs v u = true ∧ (v == u) = b := fun ev eb => by
    rcases hy with ⟨eu, _⟩ | ⟨k, eu, _⟩ <;> (rw [ev, eu]; exact fin rfl (.inl ⟨(fun z => by cases z), eb⟩))
  cases d1 with
  | none =>
    have ex := r.nonV
    subst ex
    cases (show v = Value.none from rx)
    rcases hy with ⟨eu, ed⟩ | ⟨kb, eu, ed⟩
    · subst eu ed; cases e; exact fin rfl (.inr ⟨rfl, rfl⟩)
    · subst eu ed; cases e; exact fin rfl (.inl ⟨(fun z => by cases z), rfl⟩)
  | bool q =>
    have ex := r.blV
    subst ex
    cases (show v = Value.bool q from rx)
    rcases hy with ⟨eu, ed⟩ | ⟨kb, eu, ed⟩
    · subst eu ed; cases e; exact fin rfl (.inl ⟨(fun z => by cases z), rfl⟩)
    · subst eu ed
      have e' : decide (q = kb) = b := Option.some.inj e
      refine fin rfl ?_
      by_cases h : q = kb
      · exact .inr ⟨by rw [h], by rw [← e']; exact decide_eq_true h⟩
      · exact .inl ⟨(fun z => h (by cases z; rfl)), by rw [← e']; exact decide_eq_false h⟩
  | int q =>
    have ex := r.intV
    subst ex
    obtain ⟨t, ev⟩ := (show ∃ t, v = Value.int q t from rx)
    rcases hy with ⟨eu, ed⟩ | ⟨kb, eu, ed⟩ <;> (subst ev eu ed; cases e; exact fin rfl (.inl ⟨(fun z => by cases z), rfl⟩))
  | str q =>
    have ex := r.strV
    subst ex
    obtain ⟨t, ev⟩ := (show ∃ t, v = Value.str q t from rx)
    rcases hy with ⟨eu, ed⟩ | ⟨kb, eu, ed⟩ <;> (subst ev eu ed; cases e; exact fin rfl (.inl ⟨(fun z => by cases z), rfl⟩))
  | tuple ds =>
    rw [RO] at r
    obtain ⟨a, vs, ex, _⟩ := r
    subst ex
    refine ref1 rx ?_
    rcases hy with ⟨_, ed⟩ | ⟨k, _, ed⟩ <;> (subst ed; exact (Option.some.inj e).symm)
  | list ds =>
    rw [RO] at r
    obtain ⟨a, vs, ex, _⟩ := r
    subst ex
    refine ref1 rx ?_
    rcases hy with ⟨_, ed⟩ | ⟨k, _, ed⟩ <;> (subst ed; exact (Option.some.inj e).symm)
  | dict kvs =>
    cases kvs with
    | cons kv r =>
      rcases hy with ⟨_, ed⟩ | ⟨k, _, ed⟩ <;> (subst ed; cases e)
    | nil =>
      rw [RO] at r
      obtain ⟨a, ex, _⟩ := (show ∃ a, x = V.ref a ∧ H a = some (.dK []) ∧ ([] : List Addr) = [] ∧ s1 = [a] from r)
      subst ex
      refine ref1 rx ?_
      rcases hy with ⟨_, ed⟩ | ⟨k, _, ed⟩ <;> (subst ed; exact (Option.some.inj e).symm)
theorem op_isD : OpR X (compareOp .Is) (rIs c false) := by
  intro pins s σ H x y v u Q I rx ry ⟨d1, d2, s1, b, r, k, e, q⟩
  obtain ⟨hp, hb⟩ := is_val r k e rx ry
  exact wpAny_is_plain hp (by rw [hb]; exact ⟨.bl b, H, I, rfl, q⟩)
theorem op_isnotD : OpR X (compareOp .IsNot) (rIs c true) := by
  intro pins s σ H x y v u Q I rx ry ⟨d1, d2, s1, b, r, k, e, q⟩
  obtain ⟨hp, hb⟩ := is_val r k e rx ry
  exact wpAny_isNot_plain hp (by rw [hb]; exact ⟨.bl (!b), H, I, rfl, q⟩)
end

/-! ### built-ins -/
/-- the arguments, each with what its items are made of -/
def Its (c : Cb) (H : Hp) : List D → List V → List Addr → Prop
  | [], vs, L => vs = [] ∧ L = []
  | d :: ds, vs, L => ∃ v vs' i L', vs = v :: vs' ∧ It c H d v i ∧ Its c H ds vs' L' ∧ L = i ++ L'
section
variable {c : Cb} {H : Hp}
theorem Its.one {d : D} {vs : List V} {L : List Addr} (h : Its c H [d] vs L) : ∃ v, vs = [v] ∧ It c H d v L := by
  obtain ⟨v, vs', i, L', e, h1, ⟨e2, e3⟩, e4⟩ := h
  subst e e2 e3 e4
  exact ⟨v, rfl, by rw [List.append_nil]; exact h1⟩
theorem Its.two {d e : D} {vs : List V} {L : List Addr} (h : Its c H [d, e] vs L) : ∃ v w i j, vs = [v, w] ∧ It c H d v i ∧ It c H e w j := by
  obtain ⟨v, vs', i, L', e1, h1, ⟨w, vs'', j, L'', e2, h2, ⟨e3, _⟩, _⟩, _⟩ := h
  subst e1 e2 e3
  exact ⟨v, w, i, j, rfl, h1, h2⟩
theorem maxL_spec : ∀ (r : List Int) (m : Int), (maxL m r = m ∨ maxL m r ∈ r) ∧ m ≤ maxL m r ∧ ∀ y, y ∈ r → y ≤ maxL m r
  | [], m => ⟨.inl rfl, Int.le_refl _, by simp⟩
  | x :: r, m => by
    obtain ⟨h1, h2, h3⟩ := maxL_spec r (if x > m then x else m)
    have e : maxL m (x :: r) = maxL (if x > m then x else m) r := rfl
    rw [e]
    by_cases hx : x > m
    · rw [if_pos hx] at h1 h2 h3 ⊢
      refine ⟨h1.elim (fun z => .inr (by rw [z]; exact List.mem_cons_self ..)) fun z => .inr (List.mem_cons_of_mem _ z), by omega, fun y hy => ?_⟩
      rcases List.mem_cons.mp hy with rfl | hy
      · exact h2
      · exact h3 y hy
    · rw [if_neg hx] at h1 h2 h3 ⊢
      refine ⟨h1.elim .inl fun z => .inr (List.mem_cons_of_mem _ z), h2, fun y hy => ?_⟩
      rcases List.mem_cons.mp hy with rfl | hy
      · omega
      · exact h3 y hy
theorem minL_spec : ∀ (r : List Int) (m : Int), (minL m r = m ∨ minL m r ∈ r) ∧ minL m r ≤ m ∧ ∀ y, y ∈ r → minL m r ≤ y
  | [], m => ⟨.inl rfl, Int.le_refl _, by simp⟩
  | x :: r, m => by
    obtain ⟨h1, h2, h3⟩ := minL_spec r (if x < m then x else m)
    have e : minL m (x :: r) = minL (if x < m then x else m) r := rfl
    rw [e]
    by_cases hx : x < m
    · rw [if_pos hx] at h1 h2 h3 ⊢
      refine ⟨h1.elim (fun z => .inr (by rw [z]; exact List.mem_cons_self ..)) fun z => .inr (List.mem_cons_of_mem _ z), by omega, fun y hy => ?_⟩
      rcases List.mem_cons.mp hy with rfl | hy
      · exact h2
      · exact h3 y hy
    · rw [if_neg hx] at h1 h2 h3 ⊢
      refine ⟨h1.elim .inl fun z => .inr (List.mem_cons_of_mem _ z), h2, fun y hy => ?_⟩
      rcases List.mem_cons.mp hy with rfl | hy
      · omega
      · exact h3 y hy
/-! sorting -/
def prs (vs : List V) (ds : List D) : List (V × D) := vs.zip ds
theorem ROs.mem : ∀ {ds : List D} {vs : List V} {o s : List Addr}, ROs c H ds 0 vs o s → ∀ p, p ∈ prs vs ds → ∃ o' s', RO c H p.2 0 p.1 o' s' ∧ ∀ a, a ∈ s' → a ∈ s
  | [], _, _, _, h, p, hp => by rw [ROs] at h; rw [h.1] at hp; simp [prs] at hp
  | d :: ds, _, _, _, h, p, hp => by
    rw [ROs] at h
    obtain ⟨v, vs', o1, s1, o2, s2, e, r1, r2, eo, es⟩ := h
    subst e es
    rw [prs, List.zip_cons_cons] at hp
    rcases List.mem_cons.mp hp with rfl | hp
    · exact ⟨o1, s1, r1, fun a ha => List.mem_append_left _ ha⟩
    · obtain ⟨o', s', r', h'⟩ := ROs.mem r2 p hp
      exact ⟨o', s', r', fun a ha => List.mem_append_right _ (h' a ha)⟩
theorem ROs.ofPairs : ∀ (ps : List (V × D)), (∀ p, p ∈ ps → RO c H p.2 0 p.1 [] []) → ROs c H (ps.map Prod.snd) 0 (ps.map Prod.fst) [] []
  | [], _ => by simp [ROs]
  | p :: ps, h => by
    rw [List.map_cons, List.map_cons, ROs]
    exact ⟨_, _, [], [], [], [], rfl, h p (List.mem_cons_self ..), ROs.ofPairs ps fun q hq => h q (List.mem_cons_of_mem _ hq), rfl, rfl⟩
end
section
variable {X : Cx} {c : Cb}
theorem kit_all : ∀ a, a ∈ ["NoneType", "bool", "int", "str", "list", "tuple", "dict"] → ∀ t, t ∈ ["int", "bool", "str", "list", "tuple", "dict"] → kitB a t = some (a == t || (a == "bool" && t == "int")) := by
  intro a ha t ht
  simp only [List.mem_cons, List.not_mem_nil, or_false] at ha ht
  rcases ha with h | h | h | h | h | h | h <;> subst h <;> (rcases ht with h | h | h | h | h | h <;> subst h <;> decide +kernel)
theorem ty_of {H : Hp} {d : D} {v : V} {s : List Addr} {t : String} {b : Bool} (hK : X.K = c.K) (r : RO c H d 0 v [] s) (e : isTy d t = some b) : ∃ T, TyX X.K H v T ∧ PySem.W.kitOne X.K T (.type t) = some b := by
  have fin : ∀ {a : String}, tyName d = some a → a ∈ ["NoneType", "bool", "int", "str", "list", "tuple", "dict"] → TyX X.K H v (.type a) → ∃ T, TyX X.K H v T ∧ PySem.W.kitOne X.K T (.type t) = some b := fun {a} h1 h2 h3 => by
    refine ⟨_, h3, ?_⟩
    unfold isTy at e
    rw [h1] at e
    dsimp only at e
    split at e
    · rename_i ht
      rw [← e]
      exact kit_ty (kit_all a h2 t ht)
    · cases e
  cases d with
  | none => have ex := r.nonV; subst ex; exact fin rfl (by simp) (.base .non)
  | bool q => have ex := r.blV; subst ex; exact fin rfl (by simp) (.base (.bl _))
  | int q => have ex := r.intV; subst ex; exact fin rfl (by simp) (.base (.int _))
  | str q => have ex := r.strV; subst ex; exact fin rfl (by simp) (.base (.str _))
  | list ds =>
    rw [RO] at r
    obtain ⟨a, vs, ex, q, _⟩ := r
    subst ex
    exact fin rfl (by simp) (.base (.lst q))
  | tuple ds =>
    rw [RO] at r
    obtain ⟨a, vs, ex, q, _⟩ := r
    subst ex
    refine fin rfl (by simp) ?_
    rcases q.1 with (q | ⟨o, q⟩) | ⟨o, its, n, q, h2, _⟩
    · exact .base (.tup q)
    · exact .fTuple q
    · exact .kTuple (hK ▸ q) h2
  | dict kvs =>
    cases kvs with
    | cons kv r => unfold isTy tyName at e; cases e
    | nil =>
      rw [RO] at r
      obtain ⟨a, ex, q, _⟩ := (show ∃ a, v = V.ref a ∧ H a = some (.dK []) ∧ ([] : List Addr) = [] ∧ s = [a] from r)
      subst ex
      exact fin rfl (by simp) (.base (.dK q))
/-- the built-in's value -/
def biV : BI → Value
  | .len => .builtin "len" | .int => .type "int" | .abs => .builtin "abs" | .max2 => .builtin "max" | .min2 => .builtin "min" | .maxl => .builtin "max" | .minl => .builtin "min"
  | .sum => .builtin "sum" | .any => .builtin "any" | .all => .builtin "all" | .tuple => .type "tuple" | .list => .type "list" | .sorted => .builtin "sorted" | .divmod => .builtin "divmod" | .str => .type "str" | .isi _ => .builtin "isinstance"
/-- isinstance has its class behind the value -/
def rBi (c : Cb) (b : BI) : List V → Hp → VK → Prop := fun vs H Q => match b with
  | .isi t => ∃ ds ws L d, vs = ws ++ [.ty t] ∧ Its c H ds ws L ∧ biD b ds = some d ∧ Mk c H d L Q
  | _ => ∃ ds L d, Its c H ds vs L ∧ biD b ds = some d ∧ Mk c H d L Q
theorem call_bi (hK : X.K = c.K) (hu : X.A.units + 80 < cLine) (hc : X.calm = true) (b : BI) : CallR X (biV b) (rBi c b) := by
  intro pins s σ H vs us Q I r h
  cases b with
  | len =>
    obtain ⟨ds, L, d, h1, e, m⟩ := (show ∃ ds L d, Its c H ds vs L ∧ lenD ds = some d ∧ Mk c H d L Q from h)
    unfold lenD at e
    split at e
    · cases e
      obtain ⟨v, ev, it⟩ := h1.one; subst ev
      obtain ⟨a, xs, ex, q, r1⟩ := it.list; subst ex
      exact call_len_seq pins s σ H _ us Q I r ⟨a, xs, rfl, .inl (SqL.of q), by rw [← r1.len']; exact m.int⟩
    · cases e
      obtain ⟨v, ev, it⟩ := h1.one; subst ev
      obtain ⟨a, ns, ex, ed, q⟩ := it.scr; subst ex ed
      exact call_len_seq pins s σ H _ us Q I r ⟨a, _, rfl, .inl (hK ▸ q.sq), by simp only [List.length_map] at m ⊢; exact m.int⟩
    · cases e
      obtain ⟨v, ev, it⟩ := h1.one; subst ev
      obtain ⟨a, xs, ex, q, r1⟩ := it.tup; subst ex
      exact call_len_seq pins s σ H _ us Q I r ⟨a, xs, rfl, .inr (hK ▸ q.1), by rw [← r1.len']; exact m.int⟩
    · split at e
      · rename_i hz; cases e
        obtain ⟨v, ev, it⟩ := h1.one; subst ev
        exact call_len_str pins s σ H _ us Q I r ⟨_, by rw [it.str], by rw [lim]; exact hz, m.int⟩
      · cases e
    · cases e
  | int =>
    obtain ⟨ds, L, d, h1, e, m⟩ := (show ∃ ds L d, Its c H ds vs L ∧ intC ds = some d ∧ Mk c H d L Q from h)
    unfold intC at e
    split at e
    · cases e
      obtain ⟨v, ev, it⟩ := h1.one; subst ev
      exact call_int1 pins s σ H _ us Q I r (.inl ⟨_, by rw [it.int], m.int⟩)
    · cases e
      obtain ⟨v, ev, it⟩ := h1.one; subst ev
      exact call_int1 pins s σ H _ us Q I r (.inr ⟨_, by rw [it.bool], m.int⟩)
    · cases e
  | abs =>
    obtain ⟨ds, L, d, h1, e, m⟩ := (show ∃ ds L d, Its c H ds vs L ∧ absD ds = some d ∧ Mk c H d L Q from h)
    unfold absD at e
    split at e
    · cases e
      obtain ⟨v, ev, it⟩ := h1.one; subst ev
      exact call_abs pins s σ H _ us Q I r ⟨_, by rw [it.int], m.int⟩
    · cases e
  | max2 =>
    obtain ⟨ds, L, d, h1, e, m⟩ := (show ∃ ds L d, Its c H ds vs L ∧ max2D ds = some d ∧ Mk c H d L Q from h)
    unfold max2D at e
    split at e
    · cases e
      obtain ⟨v, w, i, j, ev, it, it2⟩ := h1.two; subst ev
      exact call_max2 hc pins s σ H _ us Q I r ⟨_, _, by rw [it.int, it2.int], m.int⟩
    · cases e
  | min2 =>
    obtain ⟨ds, L, d, h1, e, m⟩ := (show ∃ ds L d, Its c H ds vs L ∧ min2D ds = some d ∧ Mk c H d L Q from h)
    unfold min2D at e
    split at e
    · cases e
      obtain ⟨v, w, i, j, ev, it, it2⟩ := h1.two; subst ev
      exact call_min2 hc pins s σ H _ us Q I r ⟨_, _, by rw [it.int, it2.int], m.int⟩
    · cases e
  | maxl =>
    obtain ⟨ds, L, d, h1, e, m⟩ := (show ∃ ds L d, Its c H ds vs L ∧ maxlD ds = some d ∧ Mk c H d L Q from h)
    unfold maxlD at e
    split at e
    · rename_i xs
      cases hq : intsD xs with
      | none => rw [hq] at e; cases e
      | some ns =>
        rw [hq] at e
        obtain ⟨v, ev, it⟩ := h1.one; subst ev
        have ed := intsD_map hq; subst ed
        obtain ⟨a, ws, ex, q, r1⟩ := it.list; subst ex
        rw [r1.ints] at q
        cases ns with
        | nil => cases e
        | cons n ns =>
          cases e
          obtain ⟨g1, g2, g3⟩ := maxL_spec ns n
          refine cr_max hc pins s σ H _ us Q I r ⟨a, n :: ns, rfl, SqL.of q, by simp, fun k hk hle => ?_⟩
          have e1 : k = maxL n ns := by
            have h1 : maxL n ns ≤ k := by
              rcases g1 with z | z
              · rw [z]; exact hle n (List.mem_cons_self ..)
              · exact hle _ (List.mem_cons_of_mem _ z)
            have h2 : k ≤ maxL n ns := by
              rcases List.mem_cons.mp hk with z | z
              · rw [z]; exact g2
              · exact g3 k z
            omega
          rw [e1]; exact m.int
    · cases e
  | minl =>
    obtain ⟨ds, L, d, h1, e, m⟩ := (show ∃ ds L d, Its c H ds vs L ∧ minlD ds = some d ∧ Mk c H d L Q from h)
    unfold minlD at e
    split at e
    · rename_i xs
      cases hq : intsD xs with
      | none => rw [hq] at e; cases e
      | some ns =>
        rw [hq] at e
        obtain ⟨v, ev, it⟩ := h1.one; subst ev
        have ed := intsD_map hq; subst ed
        obtain ⟨a, ws, ex, q, r1⟩ := it.list; subst ex
        rw [r1.ints] at q
        cases ns with
        | nil => cases e
        | cons n ns =>
          cases e
          obtain ⟨g1, g2, g3⟩ := minL_spec ns n
          refine cr_min hc pins s σ H _ us Q I r ⟨a, n :: ns, rfl, SqL.of q, by simp, fun k hk hle => ?_⟩
          have e1 : k = minL n ns := by
            have h1 : k ≤ minL n ns := by
              rcases g1 with z | z
              · rw [z]; exact hle n (List.mem_cons_self ..)
              · exact hle _ (List.mem_cons_of_mem _ z)
            have h2 : minL n ns ≤ k := by
              rcases List.mem_cons.mp hk with z | z
              · rw [z]; exact g2
              · exact g3 k z
            omega
          rw [e1]; exact m.int
    · cases e
  | sum =>
    obtain ⟨ds, L, d, h1, e, m⟩ := (show ∃ ds L d, Its c H ds vs L ∧ sumD ds = some d ∧ Mk c H d L Q from h)
    unfold sumD at e
    split at e
    · rename_i xs
      cases hq : intsD xs with
      | none => rw [hq] at e; cases e
      | some ns =>
        rw [hq] at e; cases e
        obtain ⟨v, ev, it⟩ := h1.one; subst ev
        have ed := intsD_map hq; subst ed
        obtain ⟨a, ws, ex, q, r1⟩ := it.list; subst ex
        rw [r1.ints] at q
        exact cr_sum hc pins s σ H _ us Q I r ⟨a, ns, rfl, SqL.of q, m.int⟩
    · cases e
  | any =>
    obtain ⟨ds, L, d, h1, e, m⟩ := (show ∃ ds L d, Its c H ds vs L ∧ anyD ds = some d ∧ Mk c H d L Q from h)
    unfold anyD at e
    split at e
    · rename_i xs
      cases hq : boolsD xs with
      | none => rw [hq] at e; cases e
      | some ns =>
        rw [hq] at e; cases e
        obtain ⟨v, ev, it⟩ := h1.one; subst ev
        have ed := boolsD_map hq; subst ed
        obtain ⟨a, ws, ex, q, r1⟩ := it.list; subst ex
        rw [r1.bools] at q
        exact cr_any hc pins s σ H _ us Q I r ⟨a, ns, rfl, SqL.of q, m.bool⟩
    · cases e
  | all =>
    obtain ⟨ds, L, d, h1, e, m⟩ := (show ∃ ds L d, Its c H ds vs L ∧ allD ds = some d ∧ Mk c H d L Q from h)
    unfold allD at e
    split at e
    · rename_i xs
      cases hq : boolsD xs with
      | none => rw [hq] at e; cases e
      | some ns =>
        rw [hq] at e; cases e
        obtain ⟨v, ev, it⟩ := h1.one; subst ev
        have ed := boolsD_map hq; subst ed
        obtain ⟨a, ws, ex, q, r1⟩ := it.list; subst ex
        rw [r1.bools] at q
        exact cr_all hc pins s σ H _ us Q I r ⟨a, ns, rfl, SqL.of q, m.bool⟩
    · cases e
  | tuple =>
    obtain ⟨ds, L, d, h1, e, m⟩ := (show ∃ ds L d, Its c H ds vs L ∧ tupC ds = some d ∧ Mk c H d L Q from h)
    unfold tupC at e
    split at e
    · cases e
      obtain ⟨v, ev, it⟩ := h1.one; subst ev
      obtain ⟨a, xs, ex, q, r1⟩ := it.list; subst ex
      exact call_tuple_ofN pins s σ H _ us Q I r ⟨a, xs, rfl, .inl ⟨SqL.of q, m.tup r1 fun _ h => h⟩⟩
    · cases e
      obtain ⟨v, ev, it⟩ := h1.one; subst ev
      obtain ⟨a, xs, ex, q, r1⟩ := it.tup; subst ex
      exact call_tuple_ofN pins s σ H _ us Q I r ⟨a, xs, rfl, .inr ⟨hK ▸ q.1, m.tupOld q r1 fun _ h => h⟩⟩
    · cases e
  | list =>
    obtain ⟨ds, L, d, h1, e, m⟩ := (show ∃ ds L d, Its c H ds vs L ∧ lstC ds = some d ∧ Mk c H d L Q from h)
    unfold lstC at e
    split at e
    · cases e
      obtain ⟨v, ev, it⟩ := h1.one; subst ev
      obtain ⟨a, xs, ex, q, r1⟩ := it.list; subst ex
      exact call_list_of pins s σ H _ us Q I r ⟨a, xs, rfl, .inl (SqL.of q), m.list r1 fun _ h => h⟩
    · cases e
      obtain ⟨v, ev, it⟩ := h1.one; subst ev
      obtain ⟨a, xs, ex, q, r1⟩ := it.tup; subst ex
      exact call_list_of pins s σ H _ us Q I r ⟨a, xs, rfl, .inr (hK ▸ q.1), m.list r1 fun _ h => h⟩
    · cases e
  | sorted =>
    obtain ⟨ds, L, d, h1, e, m⟩ := (show ∃ ds L d, Its c H ds vs L ∧ srtC ds = some d ∧ Mk c H d L Q from h)
    unfold srtC at e
    split at e
    · rename_i xs
      split at e
      · rename_i hz; cases e
        obtain ⟨v, ev, it⟩ := h1.one; subst ev
        obtain ⟨a, ws, ex, q, r1⟩ := it.list; subst ex
        obtain ⟨its, rv, hl, hsz⟩ := I.list (SqL.of q)
        rw [Vals.ref1 r]
        unfold sortOk at hz
        simp only [Bool.and_eq_true, Bool.or_eq_true, List.all_eq_true] at hz
        obtain ⟨⟨⟨z1, z2⟩, z3⟩, z4⟩ := hz
        obtain ⟨_, e2, r2⟩ := ROs.lf xs 0 0 ws [] L z3 r1
        subst e2
        have hlen := r1.len'
        have hvl := rv.length
        have reads : ∀ (ds : List D) (vs : List V) (us : List Value), (∀ d, d ∈ ds → shp d = true) → ROs c H ds 0 vs [] [] → Vals vs us → PySem.W.EachIs (fun (u : Value) (p : V × D) => RelV p.1 u ∧ RO c H p.2 0 p.1 [] [] ∧ ∃ as, Reads s.heap u p.2 as) us (prs vs ds) := by
          intro ds
          induction ds with
          | nil => intro vs us _ h r; rw [ROs] at h; rw [h.1] at r ⊢; cases r; exact .nil
          | cons d ds ih =>
            intro vs us hd h r
            rw [ROs] at h
            obtain ⟨v, vs', o1, s1, o2, s2, e, q1, q2, eo, es⟩ := h
            subst e
            have eo1 : o1 = [] := (List.append_eq_nil_iff.mp eo.symm).1
            have eo2 : o2 = [] := (List.append_eq_nil_iff.mp eo.symm).2
            have es1 : s1 = [] := (List.append_eq_nil_iff.mp es.symm).1
            have es2 : s2 = [] := (List.append_eq_nil_iff.mp es.symm).2
            subst eo1 eo2 es1 es2
            cases r with
            | cons ra rb =>
              rw [prs, List.zip_cons_cons]
              exact .cons ⟨ra, q1, Dp.reads I d v _ (hK ▸ q1.shaped (hd d (List.mem_cons_self ..))) ra⟩ (ih _ _ (fun d hd' => hd d (List.mem_cons_of_mem _ hd')) q2 rb)
        have er := reads xs ws its z2 r2 rv
        have hsnd : (prs ws xs).map Prod.snd = xs := List.map_snd_zip (by omega)
        refine PySem.W.sorted_data (enc := Prod.snd) (bs := prs ws xs) (R := fun u p => RelV p.1 u ∧ RO c H p.2 0 p.1 [] [] ∧ ∃ as, Reads s.heap u p.2 as) hl.isList er (er.mono fun _ _ h => h.2.2) ?_ ?_ ?_ (fun p hp => ?_) fun out ho eo => ?_
        · rw [hsnd]
          intro d hd d' hd'
          exact z1 d hd d' hd'
        · rw [hsnd]
          rcases z4 with z4 | z4
          · refine .inl fun d hd => ?_
            have := z4 d hd
            cases d with
            | tuple ys => cases ys with
              | nil => cases this
              | cons y ys => exact ⟨y, ys, rfl⟩
            | _ => cases this
          · refine .inr fun d hd => ?_
            have := z4 d hd
            exact ⟨(fun z => by subst z; cases this), (fun ys z => by subst z; cases this)⟩
        · have : (prs ws xs).length ≤ ws.length := by rw [prs, List.length_zip]; exact Nat.min_le_left _ _
          exact Nat.le_trans this hsz
        · have hd : p.2 ∈ xs := (List.of_mem_zip hp).2
          have := depth64 (z2 _ hd)
          omega
        · obtain ⟨ep, he'⟩ := PyProof.Rows.sortedAll_at s.heap its out.toArray
          generalize hso : (prs ws xs).mergeSort (PySem.W.dataLe false Prod.snd) = so at eo
          have hperm : so.Perm (prs ws xs) := by rw [← hso]; exact List.mergeSort_perm _ _
          have hds : so.map Prod.snd = sortD xs := by
            rw [← hso, sortD]
            have := List.map_mergeSort (r := PySem.W.dataLe false (Prod.snd : V × D → D)) (s := fun a b => !ltD b a) (f := Prod.snd) (l := prs ws xs) (fun a _ b _ => rfl)
            rw [this, hsnd]
          have hvals : Vals (so.map Prod.fst) out := by
            clear ho he' hso hperm hds
            induction eo with
            | nil => exact .nil
            | cons h _ ih => exact .cons h.1 ih
          have hro : ROs c H (so.map Prod.snd) 0 (so.map Prod.fst) [] [] := ROs.ofPairs so fun p hp => by
            obtain ⟨u, _, hu'⟩ : ∃ u, u ∈ out ∧ RO c H p.2 0 p.1 [] [] := by
              clear ho he' hso hperm hds hvals
              induction eo with
              | nil => simp at hp
              | cons h _ ih =>
                rcases List.mem_cons.mp hp with e | hp
                · subst e; exact ⟨_, List.mem_cons_self .., h.2.1⟩
                · obtain ⟨u, h1, h2⟩ := ih hp
                  exact ⟨u, List.mem_cons_of_mem _ h1, h2⟩
            exact hu'
          rw [hds] at hro
          have hlen2 : (so.map Prod.fst).length ≤ sizeLine := by
            rw [List.length_map, hperm.length_eq, prs, List.length_zip]
            exact Nat.le_trans (Nat.min_le_left _ _) hsz
          exact ⟨.ref _, upd H (s.heap.objs.size + 1) (.lst (so.map Prod.fst)), I.laid (t' := s.toks) (fun _ _ => PyProof.Rows.sortedAll_old) (Nat.le_succ _) ⟨hlen2, out, ep, hvals, he'⟩, rfl, m.list hro (by simp) _ (I.hok.fresh (Nat.le_succ _))⟩
      · cases e
    · cases e
  | divmod =>
    obtain ⟨ds, L, d, h1, e, m⟩ := (show ∃ ds L d, Its c H ds vs L ∧ dmD ds = some d ∧ Mk c H d L Q from h)
    unfold dmD at e
    split at e
    · split at e
      · rename_i hz; cases e
        obtain ⟨v, w, i, j, ev, it, it2⟩ := h1.two; subst ev
        simp only [Bool.and_eq_true, decide_eq_true_eq] at hz
        refine call_divmodN pins s σ H _ us Q I r ⟨_, _, by rw [it.int, it2.int], hz, m.tup (s := []) ?_ (by simp)⟩
        rw [ROs]
        refine ⟨_, _, [], [], [], [], rfl, by rw [RO]; exact ⟨rfl, rfl, rfl⟩, ?_, rfl, rfl⟩
        rw [ROs]
        refine ⟨_, _, [], [], [], [], rfl, by rw [RO]; exact ⟨rfl, rfl, rfl⟩, ?_, rfl, rfl⟩
        rw [ROs]
        exact ⟨rfl, rfl, rfl⟩
      · cases e
    · cases e
  | str =>
    obtain ⟨ds, L, d, h1, e, m⟩ := (show ∃ ds L d, Its c H ds vs L ∧ strC ds = some d ∧ Mk c H d L Q from h)
    unfold strC at e
    split at e
    · split at e
      · rename_i hz; cases e
        obtain ⟨v, ev, it⟩ := h1.one; subst ev
        exact call_str_int pins s σ H _ us Q I r ⟨_, by rw [it.int], hz, m.str⟩
      · cases e
    · cases e
  | isi t =>
    obtain ⟨ds, ws, L, d, ev, h1, e, m⟩ := (show ∃ ds ws L d, vs = ws ++ [.ty t] ∧ Its c H ds ws L ∧ isiD t ds = some d ∧ Mk c H d L Q from h)
    unfold isiD at e
    split at e
    · rename_i d0
      obtain ⟨v, ew, it⟩ := h1.one
      subst ew ev
      cases hq : isTy d0 t with
      | none => rw [hq] at e; cases e
      | some k =>
        rw [hq] at e; cases e
        obtain ⟨sv, rv⟩ := it.read
        obtain ⟨T, ty, kt⟩ := ty_of hK rv hq
        exact call_isi pins s σ H _ us Q I r ⟨v, .ty t, T, .type t, k, rfl, .ty t, ty, kt, m.bool⟩
    · cases e
end
end QQ
namespace QQ
open PySem L2

/-! ### t[::-1] -/
section
variable {prog : Program} {w : World} {A : Around} {E : Value → Shared → Prop} {s : Shared}
open PyProof.Rows HT
theorem rev_pick (items : Array Value) : ((List.range items.size).filterMap fun (k : Nat) => items[((items.size : Int) - 1 + (k : Int) * (-1)).toNat]?) = items.toList.reverse := by
  apply List.ext_getElem?
  intro j
  have e : (List.range items.size).filterMap (fun (k : Nat) => items[((items.size : Int) - 1 + (k : Int) * (-1)).toNat]?) = (List.range items.size).map fun k => items.toList[items.size - 1 - k]?.getD .none := by
    have all : ∀ (l : List Nat), (∀ k ∈ l, k < items.size) → l.filterMap (fun (k : Nat) => items[((items.size : Int) - 1 + (k : Int) * (-1)).toNat]?) = l.map fun k => items.toList[items.size - 1 - k]?.getD .none := by
      intro l
      induction l with
      | nil => intro _; rfl
      | cons k l ih =>
        intro h
        have hk := h k (List.mem_cons_self ..)
        have e1 : ((items.size : Int) - 1 + (k : Int) * (-1)).toNat = items.size - 1 - k := by omega
        have hlt : items.size - 1 - k < items.size := by omega
        have e2 : items[((items.size : Int) - 1 + (k : Int) * (-1)).toNat]? = some (items.toList[items.size - 1 - k]?.getD .none) := by
          rw [e1]; simp [hlt]
        rw [List.filterMap_cons_some (f := fun (k : Nat) => items[((items.size : Int) - 1 + (k : Int) * (-1)).toNat]?) e2, List.map_cons, ih fun k hk => h k (List.mem_cons_of_mem _ hk)]
    exact all _ fun k hk => List.mem_range.mp hk
  rw [e]
  by_cases hj : j < items.size
  · rw [List.getElem?_map, List.getElem?_range hj, List.getElem?_reverse (by simpa using hj)]
    have hlt : items.size - 1 - j < items.size := by omega
    simp [hlt]
  · rw [List.getElem?_eq_none (by simpa using hj), List.getElem?_eq_none (by simpa using hj)]
theorem adjust_rev (n : Nat) : Builtin.Slice.sliceAdjust none none (-1) (n : Int) = ((n : Int) - 1, -1) := rfl
theorem places_rev (n : Nat) : Builtin.Slice.slicePlaces ((n : Int) - 1) (-1) (-1) = n := by
  unfold Builtin.Slice.slicePlaces
  have h1 : ¬ (-1 : Int) > 0 := by omega
  have h2 : (- -1 : Int) = 1 := rfl
  simp only [h1, if_false, h2, Int.ediv_one]
  split <;> omega
theorem sliceApplied_rev {sl : Addr} {vl vu vk : Value} {n : Nat} {Q : Int × Int × Nat → Shared → Prop} (hs : s.heap.IsSliceOf sl vl vu vk) (pl : IsPart vl none) (pu : IsPart vu none) (pk : IsPart vk (some (-1)))
    (h : Q ((n : Int) - 1, -1, n) s) : wpAny (model prog w) A (Builtin.Slice.sliceApplied (.ref sl) (pure (n : Int))) Q E s := by
  obtain ⟨os, hos, hcs, hds⟩ := id hs
  unfold Builtin.Slice.sliceApplied Builtin.Slice.sliceFields
  refine wpAny_bind (wpAny_bind (wpAny_field hos hds (x := vl) rfl (wpAny_bind (wpAny_field hos hds (x := vu) rfl (wpAny_bind (wpAny_field hos hds (x := vk) rfl (wpAny_pure ?_)))))))
  refine wpAny_bind (slicePart_ pk ?_)
  show wpAny _ _ (if ((-1 : Int) == 0) = true then _ else _) _ _ s
  rw [if_neg (by decide)]
  refine wpAny_bind (slicePart_ pl (wpAny_bind (slicePart_ pu (wpAny_bind (wpAny_pure ?_)))))
  show wpAny _ _ (match Builtin.Slice.sliceAdjust none none (-1) (n : Int) with | (lo, hi) => pure (lo, (-1 : Int), Builtin.Slice.slicePlaces lo hi (-1))) _ _ s
  rw [adjust_rev n]
  show wpAny _ _ (pure ((n : Int) - 1, (-1 : Int), Builtin.Slice.slicePlaces ((n : Int) - 1) (-1) (-1))) _ _ s
  rw [places_rev]
  exact wpAny_pure h
theorem getItem_tuple_rev {t sl : Addr} {items : Array Value} {vl vu vk : Value} {Q : Value → Shared → Prop} (ht : IsTup s.heap t items) (hs : s.heap.IsSliceOf sl vl vu vk) (pl : IsPart vl none) (pu : IsPart vu none) (pk : IsPart vk (some (-1)))
    (h : Q (.ref s.heap.objs.size) { s with heap := s.heap.push { cls := .type "tuple", data := .seq items.toList.reverse.toArray } })
    (hsz : items.size ≤ sizeLine) : wpAny (model prog w) A (getItem (.ref t) (.ref sl)) Q E s := by
  have htake : sizeOk (.seq items.toList.reverse.toArray) := by
    show items.toList.reverse.toArray.size ≤ sizeLine
    rw [List.size_toArray, List.length_reverse, Array.length_toList]
    exact hsz
  obtain ⟨os, hos, hcs, hds⟩ := id hs
  have hTs : s.TypeIs (.ref sl) "slice" := ⟨os, hos, hcs⟩
  unfold getItem
  try with_reducible refine wpAny_holding ?_
  first | refine wpAny_bind (wpAny_pure ?_) | skip
  refine wpAny_bind (wpAny_sequenceKey ht.typeIs (by decide) ?_)
  refine wpAny_bind (wpAny_callSpecial?_slot (name := Str.ofString "__getitem__") ht.typeIs PyProof.Rows.slot_tuple_getitem
    (wpAny_call_entry PyProof.Rows.slot_tuple_getitem ht.typeIs entry_tuple_getitem ?_ (args_tuple_getitem _ _)))
  show wpAny _ _ (Builtin.Tuple.tupleItemsOf (.ref t) >>= _) _ _ s
  refine wpAny_bind (tupleItemsOf_ ht ?_)
  refine wpAny_bind (wpAny_typeOf hTs ?_)
  rw [if_pos (by decide)]
  refine wpAny_bind (sliceApplied_rev hs pl pu pk ?_)
  have hno : ¬ (((items.size : Int) - 1 == 0 && (-1 : Int) == 1 && items.size == items.size) = true) := by
    intro q
    rw [Bool.and_eq_true, Bool.and_eq_true] at q
    have q1 : (-1 : Int) = 1 := eq_of_beq q.1.2
    omega
  show wpAny _ _ (if (((items.size : Int) - 1 == 0 && (-1 : Int) == 1 && items.size == items.size) = true) then _ else _) _ _ s
  rw [if_neg hno, rev_pick]
  first
    | exact wpAny_bind (m := Builtin.Tuple.tupleExact _) (wpAny_newObj_type (wpAny_pure ⟨_, rfl, wpAny_pure h⟩) htake)
    | exact wpAny_bind (m := Builtin.Tuple.tupleExact _) (wpAny_newObj_type (wpAny_bind (wpAny_pure (wpAny_pure ⟨_, rfl, wpAny_pure h⟩))) htake)
    | exact wpAny_bind (wpAny_bind (m := Builtin.Tuple.tupleExact _) (wpAny_newObj_type (wpAny_pure (wpAny_pure ⟨_, rfl, wpAny_pure h⟩)) htake))
    | exact wpAny_bind (wpAny_bind (m := Builtin.Tuple.tupleExact _) (wpAny_newObj_type (wpAny_pure ⟨_, rfl, wpAny_pure h⟩) htake))
end

section
variable {c : Cb} {H : Hp}
theorem ROs.nil' {n : Nat} {vs : List V} {o s : List Addr} (h : ROs c H [] n vs o s) : vs = [] ∧ o = [] ∧ s = [] := by rw [ROs] at h; exact h
theorem ROs.cons' {d : D} {ds : List D} {n : Nat} {vs : List V} {o s : List Addr} (h : ROs c H (d :: ds) n vs o s) : ∃ v vs' o1 s1 o2 s2, vs = v :: vs' ∧ RO c H d n v o1 s1 ∧ ROs c H ds n vs' o2 s2 ∧ o = o1 ++ o2 ∧ s = s1 ++ s2 := by rw [ROs] at h; exact h
theorem ROs.mkNil {n : Nat} : ROs c H [] n [] [] [] := by rw [ROs]; exact ⟨rfl, rfl, rfl⟩
theorem ROs.mkCons {d : D} {ds : List D} {n : Nat} {v : V} {vs : List V} {o1 s1 o2 s2 : List Addr} (h : RO c H d n v o1 s1) (k : ROs c H ds n vs o2 s2) : ROs c H (d :: ds) n (v :: vs) (o1 ++ o2) (s1 ++ s2) := by
  rw [ROs]; exact ⟨_, _, _, _, _, _, rfl, h, k, rfl, rfl⟩
/-- some of the items, in any order -/
theorem ROs.pick : ∀ (is : List Nat) {ds : List D} {vs : List V} {s : List Addr}, ROs c H ds 0 vs [] s → ∃ s', ROs c H (is.filterMap (ds[·]?)) 0 (is.filterMap (vs[·]?)) [] s' ∧ ∀ a, a ∈ s' → a ∈ s
  | [], _, _, _, _ => ⟨[], .mkNil, by simp⟩
  | i :: is, ds, vs, s, r => by
    obtain ⟨s', r', h'⟩ := ROs.pick is r
    cases hd : ds[i]? with
    | none =>
      have hv : vs[i]? = none := by
        have e := r.len'
        rw [List.getElem?_eq_none_iff] at hd ⊢
        omega
      rw [List.filterMap_cons_none hd, List.filterMap_cons_none hv]
      exact ⟨s', r', h'⟩
    | some d =>
      obtain ⟨v, o1, s1, hv, r1, h1, h2⟩ := ROs.get ds 0 vs [] s r i d hd
      have e1 : o1 = [] := RO.zero d v o1 s1 r1
      subst e1
      rw [List.filterMap_cons_some hd, List.filterMap_cons_some hv]
      exact ⟨s1 ++ s', ROs.mkCons r1 r', fun a ha => (List.mem_append.mp ha).elim (h2 a) (h' a)⟩
theorem ROs.drop {n : Nat} : ∀ (k : Nat) {ds : List D} {vs : List V} {s : List Addr}, ROs c H ds n vs [] s → ∃ s', ROs c H (ds.drop k) n (vs.drop k) [] s' ∧ ∀ a, a ∈ s' → a ∈ s
  | 0, _, _, s, r => ⟨s, r, fun _ h => h⟩
  | k + 1, [], vs, s, r => by
    obtain ⟨rfl, _, _⟩ := r.nil'
    exact ⟨[], .mkNil, by simp⟩
  | k + 1, d :: ds, vs, s, r => by
    obtain ⟨v, vs', o1, s1, o2, s2, rfl, r1, r2, eo, rfl⟩ := r.cons'
    have eo := List.append_eq_nil_iff.mp eo.symm
    rw [eo.2] at r2
    obtain ⟨s', r', h'⟩ := ROs.drop k r2
    exact ⟨s', r', fun a ha => List.mem_append_right _ (h' a ha)⟩
theorem ROs.take {n : Nat} : ∀ (k : Nat) {ds : List D} {vs : List V} {s : List Addr}, ROs c H ds n vs [] s → ∃ s', ROs c H (ds.take k) n (vs.take k) [] s' ∧ ∀ a, a ∈ s' → a ∈ s
  | 0, _, _, s, r => ⟨[], by rw [List.take_zero, List.take_zero]; exact .mkNil, by simp⟩
  | k + 1, [], vs, s, r => by
    obtain ⟨rfl, _, _⟩ := r.nil'
    exact ⟨[], .mkNil, by simp⟩
  | k + 1, d :: ds, vs, s, r => by
    obtain ⟨v, vs', o1, s1, o2, s2, rfl, r1, r2, eo, rfl⟩ := r.cons'
    have eo := List.append_eq_nil_iff.mp eo.symm
    rw [eo.2] at r2
    rw [eo.1] at r1
    obtain ⟨s', r', h'⟩ := ROs.take k r2
    exact ⟨s1 ++ s', ROs.mkCons r1 r', fun a ha => (List.mem_append.mp ha).elim (List.mem_append_left _) fun h => List.mem_append_right _ (h' a h)⟩
theorem ROs.rev : ∀ {ds : List D} {vs : List V} {s : List Addr}, ROs c H ds 0 vs [] s → ∃ s', ROs c H ds.reverse 0 vs.reverse [] s' ∧ ∀ a, a ∈ s' → a ∈ s
  | [], vs, s, r => by
    obtain ⟨rfl, _, _⟩ := r.nil'
    exact ⟨[], .mkNil, by simp⟩
  | d :: ds, vs, s, r => by
    obtain ⟨v, vs', o1, s1, o2, s2, rfl, r1, r2, eo, rfl⟩ := r.cons'
    have eo := List.append_eq_nil_iff.mp eo.symm
    rw [eo.2] at r2
    rw [eo.1] at r1
    obtain ⟨s', r', h'⟩ := ROs.rev r2
    rw [List.reverse_cons, List.reverse_cons]
    refine ⟨s' ++ (s1 ++ []), ROs.app _ _ _ _ _ [] s' ([] ++ []) (s1 ++ []) r' (ROs.mkCons r1 .mkNil), fun a ha => ?_⟩
    rw [List.append_nil] at ha
    exact (List.mem_append.mp ha).elim (fun h => List.mem_append_right _ (h' a h)) (List.mem_append_left _)
theorem cut_same (xs : List D) (vs : List V) (e : xs.length = vs.length) (lo hi : Option Int) : cutL xs lo hi = (xs.drop (HT.sIx vs.length 0 lo)).take (HT.sIx vs.length vs.length hi - HT.sIx vs.length 0 lo) := by unfold cutL; rw [e]
theorem ROs.cut {ds : List D} {vs : List V} {s : List Addr} (r : ROs c H ds 0 vs [] s) (lo hi : Option Int) : ∃ s', ROs c H (cutL ds lo hi) 0 (cutV vs lo hi) [] s' ∧ ∀ a, a ∈ s' → a ∈ s := by
  rw [cut_same ds vs r.len' lo hi]
  obtain ⟨s1, r1, h1⟩ := r.drop (HT.sIx vs.length 0 lo)
  obtain ⟨s2, r2, h2⟩ := r1.take (HT.sIx vs.length vs.length hi - HT.sIx vs.length 0 lo)
  exact ⟨s2, r2, fun a ha => h1 a (h2 a ha)⟩
theorem ROs.intsMk : ∀ (ns : List Int) (n : Nat), ROs c H (ns.map PyData.int) n (ns.map V.int) [] []
  | [], n => .mkNil
  | m :: ns, n => by
    have h := ROs.mkCons (c := c) (H := H) (d := .int m) (n := n) (v := .int m) (o1 := []) (s1 := []) (by rw [RO]; exact ⟨rfl, rfl, rfl⟩) (ROs.intsMk ns n)
    exact h
end

section
open PyProof.Rows
variable {X : Cx} {c : Cb}
/-- the depth of an item -/
def subK (d : D) (k : Nat) : Nat := match d with
  | .list _ => k - 1
  | _ => k
def rIxQ (c : Cb) : R2 := fun x y H Q => ∃ d i d' k o s, RO c H d k x o s ∧ y = .int i ∧ getD d (.int i) = some d' ∧ ∀ v o' s', RO c H d' (subK d k) v o' s' → (∀ a, a ∈ o' → a ∈ o) → (∀ a, a ∈ s' → a ∈ s) → Q v H
theorem ix_Q (hK : X.K = c.K) : IxR X (rIxQ c) := by
  intro value slice pins s σ H x y v u Q I rx ry h hs
  obtain ⟨d, i, d', k, o, s0, r, ey, e, q⟩ := h
  have place : ∀ {xs : List D} {vs : List V} {n : Nat} {o1 s1 : List Addr}, ixD xs i = some d' → ROs c H xs n vs o1 s1 → ∃ v o' s', atI vs i = some v ∧ RO c H d' n v o' s' ∧ (∀ a, a ∈ o' → a ∈ o1) ∧ (∀ a, a ∈ s' → a ∈ s1) := fun {xs vs n o1 s1} e r => by
    have e' : (ixN xs.length i).bind (fun j => xs[j]?) = some d' := e
    cases hj : ixN xs.length i with
    | none => rw [hj] at e'; cases e'
    | some j =>
      rw [hj] at e'
      obtain ⟨v, o', s', h1, h2, h3, h4⟩ := ROs.get xs n vs o1 s1 r j d' e'
      refine ⟨v, o', s', ?_, h2, h3, h4⟩
      have el := r.len'
      show (ixN vs.length i).bind (fun j => vs[j]?) = some v
      rw [← el, hj]; exact h1
  unfold getD at e
  split at e
  · rename_i xs j ej
    cases ej
    have r' := r; rw [RO] at r'
    obtain ⟨h1, h2, a, ns, ex, ed, st⟩ := (show o = [] ∧ s0 = [] ∧ ∃ (a : Addr) (ns : List Int), x = .ref a ∧ xs = ns.map PyData.int ∧ StL c.K H a (ns.map V.int) from r')
    subst ed
    obtain ⟨w, o', s', e1, r1, h3, h4⟩ := place e (ROs.intsMk ns 0)
    refine ix_list value slice pins s σ H x y v u Q I rx ry ⟨a, _, i, w, ex, ey, hK ▸ st.sq, e1, ?_⟩ hs
    obtain ⟨rfl⟩ : o' = [] := RO.zero d' w o' s' r1
    have es' : s' = [] := List.eq_nil_iff_forall_not_mem.mpr fun a ha => by simpa using h4 a ha
    subst es'
    have hd' : ∃ m, d' = .int m := by
      have e' : (ixN (ns.map PyData.int).length i).bind (fun j => (ns.map PyData.int)[j]?) = some d' := e
      cases hj : ixN (ns.map PyData.int).length i with
      | none => rw [hj] at e'; cases e'
      | some j =>
        rw [hj] at e'
        have e2 : (ns.map PyData.int)[j]? = some d' := e'
        rw [List.getElem?_map] at e2
        cases hq : ns[j]? with
        | none => rw [hq] at e2; cases e2
        | some m => rw [hq] at e2; exact ⟨m, (Option.some.inj e2).symm⟩
    obtain ⟨m, rfl⟩ := hd'
    refine q w [] [] ?_ (by simp) (by simp)
    rw [RO] at r1 ⊢; exact r1
  · rename_i xs j ej
    cases ej
    obtain ⟨a, vs, ex, hq, o1, s1, r1, h1, h2⟩ := r.list_sq
    obtain ⟨w, o', s', e1, r2, h3, h4⟩ := place e r1
    exact ix_list value slice pins s σ H x y v u Q I rx ry ⟨a, _, i, w, ex, ey, SqL.of hq, e1, q w o' s' r2 (fun a ha => h1 a (h3 a ha)) fun a ha => h2 a (h4 a ha)⟩ hs
  · rename_i xs j ej
    cases ej
    obtain ⟨a, vs, ex, hq, r1⟩ := r.tup_sq
    obtain ⟨w, o', s', e1, r2, h3, h4⟩ := place e r1
    exact ix_tup value slice pins s σ H x y v u Q I rx ry ⟨a, _, i, w, ex, ey, hK ▸ hq.1, e1, q w o' s' r2 h3 h4⟩ hs
  · rename_i z j ej
    cases ej
    split at e
    · rename_i hz
      cases hc : ixD z.cps.toList i with
      | none => rw [hc] at e; cases e
      | some ch =>
        rw [hc] at e
        cases e
        exact ix_str value slice pins s σ H x y v u Q I rx ry ⟨z, i, ch, r.strV, ey, by rw [lim]; exact hz, hc, q _ [] [] (by rw [RO]; exact ⟨rfl, rfl, rfl⟩) (by simp) (by simp)⟩ hs
    · cases e
  · cases e

/-- a slice -/
def rSlQ (c : Cb) : V → Option Int → Option Int → Hp → VK → Prop := fun x lo hi H Q => ∃ d d' i, It c H d x i ∧ sliceD d lo hi = some d' ∧ Mk c H d' i Q
theorem cut_whole (xs : List D) (vs : List V) (e : xs.length = vs.length) {lo hi : Option Int} (h : HT.sIx vs.length 0 lo = 0 ∧ HT.sIx vs.length vs.length hi = vs.length) : cutL xs lo hi = xs := by
  rw [cut_same xs vs e, h.1, h.2, List.drop_zero, Nat.sub_zero, ← e, List.take_length]
theorem sl_Q (hK : X.K = c.K) : SlR X (rSlQ c) := by
  intro pins s σ H x v vl vu lo hi sl Q I rx hs pl pu h
  obtain ⟨d, d', i, it, e, m⟩ := h
  unfold sliceD at e
  split at e
  · cases e
    obtain ⟨a, vs, ex, hq, r1⟩ := it.list
    obtain ⟨s', r', h'⟩ := r1.cut lo hi
    exact sl_list pins s σ H x v vl vu lo hi sl Q I rx hs pl pu ⟨a, vs, ex, SqL.of hq, m.list r' h'⟩
  · cases e
    obtain ⟨a, vs, ex, hq, r1⟩ := it.tup
    obtain ⟨s', r', h'⟩ := r1.cut lo hi
    refine sl_tupN pins s σ H x v vl vu lo hi sl Q I rx hs pl pu ⟨a, vs, ex, hK ▸ hq.1, fun hw => ?_, fun _ => m.tup r' h'⟩
    rw [cut_whole _ vs r1.len' hw] at m
    exact m.tupOld hq r1 fun _ h => h
  · cases e
    obtain ⟨a, ns, ex, ed, st⟩ := it.scr
    subst ed
    obtain ⟨s', r', h'⟩ := (ROs.intsMk (c := c) (H := H) ns 0).cut lo hi
    have es' : s' = [] := List.eq_nil_iff_forall_not_mem.mpr fun a ha => by simpa using h' a ha
    subst es'
    exact sl_list pins s σ H x v vl vu lo hi sl Q I rx hs pl pu ⟨a, _, ex, hK ▸ st.sq, m.list r' (by simp)⟩
  · cases e

/-- x[::-1] -/
def tRevQ (c : Cb) (te : TE) : TE := fun σ H Q => te σ H fun x H1 => ∃ d d' i, It c H1 d x i ∧ revD d = some d' ∧ Mk c H1 d' i Q
theorem pe_revQ (hK : X.K = c.K) {e : Expr} {te : TE} {k : Nat} {p1 p2 p3 pos : Pos} (he : PE X e te) : PE X (.Subscript e (.Slice none none (some (.UnaryOp .USub (.Constant (.int 1) k p1) p2)) p3) pos) (tRevQ c te) := by
  refine ⟨fun pins s σ H Q I h => ?_⟩
  refine Subscript_ (thn (he.run pins s σ H _ I h) fun v s1 ⟨x, H1, I1, r1, q1⟩ => ?_)
  obtain ⟨d, d', i, it, ed, m⟩ := q1
  have hst : PO X (some (.UnaryOp .USub (.Constant (.int 1) k p1) p2)) (tPart (tUn (rU fun i => .int (-i)) (tC (.int 1)))) := po_some (pe_un un_neg pe_int)
  refine wpAny_Slice (thn (po_none.run pins s1 σ H1 (fun o H2 => o = none ∧ H2 = H1) I1 ⟨rfl, rfl⟩) fun vl s2 ⟨l, H2, I2, pl, el, e2⟩ => ?_)
  subst el e2
  refine thn (po_none.run pins s2 σ H2 (fun o H3 => o = none ∧ H3 = H2) I2 ⟨rfl, rfl⟩) fun vu s3 ⟨u, H3, I3, pu, eu, e3⟩ => ?_
  subst eu e3
  refine thn (hst.run pins s3 σ H3 (fun o H4 => o = some (-1) ∧ H4 = H3) I3 ⟨1, rfl, -1, rfl, rfl, rfl⟩) fun vs s4 ⟨o, H4, I4, ps, eo, e4⟩ => ?_
  subst eo e4
  have I5 : Inv X pins σ H4 { s4 with heap := s4.heap.push { cls := .type "slice", data := .fields #[vl, vu, vs] } } := I4.kept (t' := s4.toks) fun b ob q => Heap.get?_push_of_some _ q
  unfold revD at ed
  split at ed
  · cases ed
    obtain ⟨a, xs, ex, hq, rr⟩ := it.list
    subst ex
    cases r1
    obtain ⟨its, r, ht, hz⟩ := I5.list (SqL.of hq)
    have hlen := r.length
    obtain ⟨s', r', h'⟩ := rr.rev
    show wpAny (model X.prog X.w) X.A (subscriptTail e (.Slice none none (some (.UnaryOp .USub (.Constant (.int 1) k p1) p2)) p3) (.ref a) (.ref s4.heap.objs.size)) (EP X pins σ Q) X.xe { s4 with heap := s4.heap.push { cls := .type "slice", data := .fields #[vl, vu, vs] } }
    refine tail_any (ops := [.ref a, .ref s4.heap.objs.size]) ht.isList.typeIs (PySem.slot_list_getitem.lookup) ?_ (by with_unfolding_all rfl)
    refine wpAny_getItem_list_slice ht.isList (Heap.IsSliceOf.new _ vl vu vs) pl pu ps (by decide) ?_ (by rw [List.size_toArray]; omega)
    rw [PySem.W.krv_pick]
    refine ⟨.ref _, _, I5.laid (t' := s4.toks) (o := .lst xs.reverse) (fun b ob q => Heap.get?_push_of_some _ q) (Nat.le_refl _) ?_, rfl, m.list r' h' _ (I5.hok.fresh (Nat.le_refl _))⟩
    exact ⟨by rw [List.length_reverse]; exact hz, _, 0, r.reverse, Heap.get?_push_size _ rfl⟩
  · cases ed
    obtain ⟨a, xs, ex, hq, rr⟩ := it.tup
    subst ex
    cases r1
    obtain ⟨its, r, ht, hz⟩ := I5.tuple (hK ▸ hq.1)
    have hlen := r.length
    obtain ⟨s', r', h'⟩ := rr.rev
    show wpAny (model X.prog X.w) X.A (subscriptTail e (.Slice none none (some (.UnaryOp .USub (.Constant (.int 1) k p1) p2)) p3) (.ref a) (.ref s4.heap.objs.size)) (EP X pins σ Q) X.xe { s4 with heap := s4.heap.push { cls := .type "slice", data := .fields #[vl, vu, vs] } }
    refine tail_any (ops := [.ref a, .ref s4.heap.objs.size]) ht.typeIs (PyProof.Rows.slot_tuple_getitem.lookup) ?_ (by with_unfolding_all rfl)
    refine getItem_tuple_rev ht (Heap.IsSliceOf.new _ vl vu vs) pl pu ps ?_ (by rw [List.size_toArray]; omega)
    exact ⟨.ref _, _, laidT (tk := s4.toks) I5 (fun b ob q => Heap.get?_push_of_some _ q) r.reverse (by rw [List.length_reverse]; exact hz) (Nat.le_refl _) (Heap.get?_push_size _ rfl), rfl, m.tup r' h' _ _ (I5.hok.fresh (Nat.le_refl _)) rfl⟩
  · cases ed
end
end QQ
namespace QQ
open PySem L2

structure Gd (X : Cx) (c : Cb) (W : WX) : Prop where
  hK : X.K = c.K
  hu : X.A.units + 80 < cLine
  hc : X.calm = true
  hN : X.N.Nodup
  tk : Takes X W
/-- an expression of the model and one of the evaluator -/
abbrev PEq (X : Cx) (c : Cb) (W : WX) (C : Orc) (e : Expr) (q : E) : Prop := PE X e (tE c W (muE q) (ev C q))
abbrev PAq (X : Cx) (c : Cb) (W : WX) (C : Orc) (es : List Expr) (q : EL) : Prop := PA X es (tAr c W (muL q) (evL C q))

section
variable {c : Cb} {W : WX} {mu ma mb : List Nat} {en en1 en2 : En} {σ : L2.St} {H H1 H2 : Hp} {fo fs fo1 fs1 fo2 fs2 : FP} {Q : VK}
/-- one value -/
theorem sem1 {den : En → Out (D × Kd)} {g : D × Kd → En → Out (D × Kd)} {r : V → Hp → VK → Prop}
    (k : ∀ {en H fo fs} (x : D × Kd) e v H1 fo1 fs1 o s, FR c en σ H fo fs → FR c e σ H1 fo1 fs1 → Step mu en e H H1 fo fs fo1 fs1 → TV c e σ H1 fo1 fs1 x v o s → New mu H fo fs o s → Res c W σ (KE c σ mu en H fo fs Q) (g x e) → r v H1 Q)
    (h : tE c W mu (fun en => (den en).bind fun x e => g x e) σ H Q) : tUn r (tE c W mu den) σ H Q := by
  obtain ⟨en, fo, fs, F, hr⟩ := h
  exact tE_seq F hr fun x e1 hx v H1 fo1 fs1 o s F1 st1 t1 n1 => k x e1 v H1 fo1 fs1 o s F F1 st1 t1 n1 hx
/-- two values -/
theorem sem2 {da db : En → Out (D × Kd)} {g : D × Kd → D × Kd → En → Out (D × Kd)} {r : R2}
    (k : ∀ {en H fo fs} (x y : D × Kd) e v w H2 fo2 fs2 o s o2 s2, FR c en σ H fo fs → FR c e σ H2 fo2 fs2 → Step (ma ++ mb) en e H H2 fo fs fo2 fs2 → (pend x mb = true → TV c e σ H2 fo2 fs2 x v o s) → TV c e σ H2 fo2 fs2 y w o2 s2 →
      New (ma ++ mb) H fo fs o s → New (ma ++ mb) H fo fs o2 s2 → Res c W σ (KE c σ (ma ++ mb) en H fo fs Q) (g x y e) → r v w H2 Q)
    (h : tE c W (ma ++ mb) (fun en => (da en).bind fun x e1 => (db e1).bind fun y e2 => g x y e2) σ H Q) : tOp r (tE c W ma da) (tE c W mb db) σ H Q := by
  obtain ⟨en, fo, fs, F, hr⟩ := h
  refine tE_seq F hr fun x e1 hx v H1 fo1 fs1 o s F1 st1 t1 n1 => ?_
  refine tE_seq F1 hx fun y e2 hy w H2 fo2 fs2 o2 s2 F2 st2 t2 n2 => ?_
  exact k x y e2 v w H2 fo2 fs2 o s o2 s2 F F2 (st1.seq st2) (fun hp => t1.carry F1 st2 hp) t2 (n1.mono fun i hi => List.mem_append_left _ hi) ((n2.mono fun i hi => List.mem_append_right _ hi).back st1 fun i hi => List.mem_append_left _ hi) hy
theorem KE.bool {b : Bool} (k : KE c σ mu en H fo fs Q (.bool b, .own 0) en1) (F : FR c en1 σ H1 fo1 fs1) (st : Step mu en en1 H H1 fo fs fo1 fs1) : Q (.bl b) H1 := k.atom F st (by rw [RO]; exact ⟨rfl, rfl, rfl⟩)
theorem KE.int {b : Int} (k : KE c σ mu en H fo fs Q (.int b, .own 0) en1) (F : FR c en1 σ H1 fo1 fs1) (st : Step mu en en1 H H1 fo fs fo1 fs1) : Q (.int b) H1 := k.atom F st (by rw [RO]; exact ⟨rfl, rfl, rfl⟩)
theorem KE.non (k : KE c σ mu en H fo fs Q (.none, .own 0) en1) (F : FR c en1 σ H1 fo1 fs1) (st : Step mu en en1 H H1 fo fs fo1 fs1) : Q .non H1 := k.atom F st (by rw [RO]; exact ⟨rfl, rfl, rfl⟩)
end

section
variable {X : Cx} {c : Cb} {W : WX} {C : Orc}
theorem sem_bin (G : Gd X c W) {a b : Expr} {qa qb : E} {pos : Pos} (o : BO) (ha : PEq X c W C a qa) (hb : PEq X c W C b qb) : PEq X c W C (.BinOp a (opB o) b pos) (.bin o qa qb) := by
  refine (pe_op (op_bin G.hK o) ha hb).imp fun σ H Q h => sem2 (fun x y e v w H2 fo2 fs2 o1 s1 o2 s2 F F2 st tx ty nx ny hr => ?_) h
  split at hr
  · rename_i hz
    simp only [Bool.and_eq_true] at hz
    split at hr
    · rename_i d hd
      obtain ⟨i1, it1, sh1⟩ := (tx hz.1.1).shared F2 st nx hz.1.2
      obtain ⟨i2, it2, sh2⟩ := ty.shared F2 st ny hz.2
      exact ⟨x.1, y.1, d, i1, i2, it1, it2, hd, Mk.of hr F2 st (sh1.app sh2)⟩
    · exact hr.elim
  · exact hr.elim
theorem TV.intV {en : En} {σ : L2.St} {H : Hp} {fo fs : FP} {r : D × Kd} {v : V} {o s : List Addr} {i : Int} (t : TV c en σ H fo fs r v o s) (e : r.1 = .int i) : v = .int i := by
  obtain ⟨s0, q⟩ := t.read
  rw [e] at q
  exact q.intV
theorem TV.blV {en : En} {σ : L2.St} {H : Hp} {fo fs : FP} {r : D × Kd} {v : V} {o s : List Addr} {i : Bool} (t : TV c en σ H fo fs r v o s) (e : r.1 = .bool i) : v = .bl i := by
  obtain ⟨s0, q⟩ := t.read
  rw [e] at q
  exact q.blV
theorem sem_neg (G : Gd X c W) {a : Expr} {qa : E} {pos : Pos} (ha : PEq X c W C a qa) : PEq X c W C (.UnaryOp .USub a pos) (.neg qa) := by
  refine (pe_un un_neg ha).imp fun σ H Q h => sem1 (fun x e v H1 fo1 fs1 o s F F1 st tx nx hr => ?_) h
  split at hr
  · rename_i i hi
    exact ⟨i, tx.intV hi, hr.int F1 st⟩
  · exact hr.elim
theorem sem_not (G : Gd X c W) {a : Expr} {qa : E} {pos : Pos} (ha : PEq X c W C a qa) : PEq X c W C (.UnaryOp .Not a pos) (.not_ qa) := by
  refine (pe_not ha).imp fun σ H Q h => sem1 (r := fun x H1 Q => ∃ c, x = .bl c ∧ Q (.bl (!c)) H1) (fun x e v H1 fo1 fs1 o s F F1 st tx nx hr => ?_) h
  split at hr
  · rename_i i hi
    exact ⟨i, tx.blV hi, hr.bool F1 st⟩
  · exact hr.elim
theorem cmp_read (o : CP) {qa qb : E} {σ : L2.St} {H : Hp} {Q : VK} (h : tE c W (muE (.cmp o qa qb)) (ev C (.cmp o qa qb)) σ H Q) : tOp (rCmp c o) (tE c W (muE qa) (ev C qa)) (tE c W (muE qb) (ev C qb)) σ H Q := by
  refine sem2 (fun x y e v w H2 fo2 fs2 o1 s1 o2 s2 F F2 st tx ty nx ny hr => ?_) h
  split at hr
  · rename_i hz
    obtain ⟨t1, q1⟩ := (tx hz).read
    obtain ⟨t2, q2⟩ := ty.read
    cases hd : cmpD o x.1 y.1 with
    | none => rw [hd] at hr; exact hr.elim
    | some d =>
      rw [hd] at hr
      exact ⟨x.1, y.1, t1, t2, d, q1, q2, hd, KE.bool hr F2 st⟩
  · exact hr.elim
theorem sem_cmp (G : Gd X c W) {a b : Expr} {qa qb : E} {pos : Pos} (o : CP) (ha : PEq X c W C a qa) (hb : PEq X c W C b qb) (hm : behindInMarks (opC o) b = false) : PEq X c W C (.Compare a [opC o] [b] pos) (.cmp o qa qb) :=
  (pe_cmpR (op_cmp G.hK G.hu o) ha hb hm).imp fun σ H Q h => cmp_read o h
theorem is_read (ng : Bool) {d : D} {k : V} (hk : constV d = some k) {qa : E} {σ : L2.St} {H : Hp} {Q : VK} (h : tE c W (muE (.isc ng qa d)) (ev C (.isc ng qa d)) σ H Q) : tOp (rIs c ng) (tE c W (muE qa) (ev C qa)) (tC k) σ H Q := by
  refine sem1 (r := fun x H1 Q => tC k σ H1 fun y H2 => rIs c ng x y H2 Q) (fun x e v H1 fo1 fs1 o s F F1 st tx nx hr => ?_) h
  cases hd : isD x.1 d with
  | none => rw [hd] at hr; exact hr.elim
  | some b =>
    rw [hd] at hr
    obtain ⟨t1, q1⟩ := tx.read
    exact ⟨x.1, d, t1, b, q1, hk, hd, KE.bool hr F1 st⟩
theorem op_is (ng : Bool) : OpR X (compareOp (if ng then .IsNot else .Is)) (rIs c ng) := by cases ng; exact op_isD; exact op_isnotD
/-- x is a constant -/
theorem sem_is (G : Gd X c W) {a b : Expr} {qa : E} {pos : Pos} (ng : Bool) {d : D} {k : V} (hk : constV d = some k) (ha : PEq X c W C a qa) (hb : PE X b (tC k)) (hm : behindInMarks (if ng then .IsNot else .Is) b = false) : PEq X c W C (.Compare a [if ng then .IsNot else .Is] [b] pos) (.isc ng qa d) :=
  (pe_cmpR (op_is ng) ha hb hm).imp fun σ H Q h => is_read ng hk h
end
/-! ### slots -/
def updF (f : FP) (i : Nat) (l : List Addr) : FP := fun j => if j = i then l else f j
theorem updF_same {f : FP} {i : Nat} {l : List Addr} : updF f i l i = l := by unfold updF; rw [if_pos rfl]
theorem updF_ne {f : FP} {i j : Nat} {l : List Addr} (h : j ≠ i) : updF f i l j = f j := by unfold updF; rw [if_neg h]
section
variable {c : Cb} {en : En} {σ : L2.St} {H : Hp} {fo fs : FP}
/-- a slot is emptied -/
theorem FR.clear (F : FR c en σ H fo fs) (i : Nat) : FR c (en.set i none) σ H (updF fo i []) (updF fs i []) where
  len := by rw [List.length_set]; exact F.len
  rel := fun j d n e => by
    by_cases hj : j = i
    · subst hj
      by_cases hl : j < en.length
      · rw [List.getElem?_set_self hl] at e; cases e
      · rw [List.getElem?_eq_none (by rw [List.length_set]; omega)] at e; cases e
    · rw [List.getElem?_set_ne (Ne.symm hj)] at e
      rw [updF_ne hj, updF_ne hj]
      exact F.rel j d n e
  emp := fun j h => by
    by_cases hj : j = i
    · subst hj; exact ⟨updF_same, updF_same⟩
    · rw [updF_ne hj, updF_ne hj]
      exact F.emp j fun p e => h p (by rw [List.getElem?_set_ne (Ne.symm hj)]; exact e)
  nd := fun j => by
    by_cases hj : j = i
    · subst hj; rw [updF_same]; exact List.nodup_nil
    · rw [updF_ne hj]; exact F.nd j
  dj := fun j k a ha => by
    by_cases hj : j = i
    · subst hj; rw [updF_same] at ha; cases ha
    · rw [updF_ne hj] at ha
      by_cases hk : k = i
      · subst hk; rw [updF_same, updF_same]; exact ⟨by simp, by simp⟩
      · rw [updF_ne hk, updF_ne hk]; exact F.dj j k a ha
  so := fun j a ha => by
    by_cases hj : j = i
    · subst hj; rw [updF_same] at ha; cases ha
    · rw [updF_ne hj] at ha; exact F.so j a ha
  ss := fun j a ha => by
    by_cases hj : j = i
    · subst hj; rw [updF_same] at ha; cases ha
    · rw [updF_ne hj] at ha; exact F.ss j a ha
  kp := F.kp
  dm := F.dm
  iov := F.iov
  tb := F.tb
/-- a value that nobody owns is put in an empty slot -/
theorem FR.put (F : FR c en σ H fo fs) {i : Nat} {d : D} {n : Nat} {v : V} {o s : List Addr} (he : ∀ p, en[i]? ≠ some (some p)) (w : Own c H fo fs d n v o s) (hi : i < en.length) (hv : σ[i]? = some (some v)) :
    FR c (en.set i (some (d, n))) σ H (updF fo i o) (updF fs i s) where
  len := by rw [List.length_set]; exact F.len
  rel := fun j d' n' e => by
    by_cases hj : j = i
    · subst hj
      rw [List.getElem?_set_self hi] at e
      cases e
      rw [updF_same, updF_same]
      exact ⟨v, hv, w.ro⟩
    · rw [List.getElem?_set_ne (Ne.symm hj)] at e
      rw [updF_ne hj, updF_ne hj]
      exact F.rel j d' n' e
  emp := fun j h => by
    by_cases hj : j = i
    · subst hj; exact absurd (List.getElem?_set_self hi) (h _)
    · rw [updF_ne hj, updF_ne hj]
      exact F.emp j fun p e => h p (by rw [List.getElem?_set_ne (Ne.symm hj)]; exact e)
  nd := fun j => by
    by_cases hj : j = i
    · subst hj; rw [updF_same]; exact w.nd
    · rw [updF_ne hj]; exact F.nd j
  dj := fun j k a ha => by
    by_cases hj : j = i
    · subst hj
      rw [updF_same] at ha
      by_cases hk : k = j
      · subst hk; rw [updF_same, updF_same]; exact ⟨w.os a ha, fun z => absurd rfl z⟩
      · rw [updF_ne hk, updF_ne hk]; exact ⟨(w.of a ha k).2, fun _ => (w.of a ha k).1⟩
    · rw [updF_ne hj] at ha
      by_cases hk : k = i
      · subst hk
        rw [updF_same, updF_same]
        exact ⟨fun z => w.sf a z j ha, fun _ z => (w.of a z j).1 ha⟩
      · rw [updF_ne hk, updF_ne hk]; exact F.dj j k a ha
  so := fun j a ha => by
    by_cases hj : j = i
    · subst hj; rw [updF_same] at ha; exact w.so a ha
    · rw [updF_ne hj] at ha; exact F.so j a ha
  ss := fun j a ha => by
    by_cases hj : j = i
    · subst hj; rw [updF_same] at ha; exact w.ss a ha
    · rw [updF_ne hj] at ha; exact F.ss j a ha
  kp := F.kp
  dm := F.dm
  iov := F.iov
  tb := F.tb
/-- the value of a slot, by itself -/
theorem FR.took (F : FR c en σ H fo fs) {i : Nat} {d : D} {n : Nat} (e : en[i]? = some (some (d, n))) : ∃ v, σ[i]? = some (some v) ∧ Own c H (updF fo i []) (updF fs i []) d n v (fo i) (fs i) := by
  obtain ⟨v, hv, r⟩ := F.rel i d n e
  refine ⟨v, hv, r, F.nd i, fun a ha => (F.dj i i a ha).1, fun a ha j => ?_, fun a ha j => ?_, fun a => F.so i a, fun a => F.ss i a⟩
  · by_cases hj : j = i
    · subst hj; rw [updF_same, updF_same]; exact ⟨by simp, by simp⟩
    · rw [updF_ne hj, updF_ne hj]
      exact ⟨(F.dj i j a ha).2 (Ne.symm hj), (F.dj i j a ha).1⟩
  · by_cases hj : j = i
    · subst hj; rw [updF_same]; simp
    · rw [updF_ne hj]; exact fun z => (F.dj j i a z).1 ha
/-- the other slots' values -/
theorem FR.sigma {σ' : L2.St} (F : FR c en σ H fo fs) (hl : σ'.length = σ.length) (h : ∀ (i : Nat) p, en[i]? = some (some p) → σ'[i]? = σ[i]?) (hv : ∀ p ∈ c.iov, σ'[p.1]? = σ[p.1]?) : FR c en σ' H fo fs :=
  ⟨F.len.trans hl.symm, fun i d n e => by rw [h i _ e]; exact F.rel i d n e, F.emp, F.nd, F.dj, F.so, F.ss, F.kp, F.dm, fun p hp => (hv p hp).trans (F.iov p hp), F.tb⟩
theorem clear_step (i : Nat) : Step [i] en (en.set i none) H H fo fs (updF fo i []) (updF fs i []) where
  keep := fun _ _ e _ _ => e
  dom := fun _ h => h
  oo := fun j a ha => by
    by_cases hj : j = i
    · subst hj; rw [updF_same] at ha; cases ha
    · rw [updF_ne hj] at ha; exact .inl ha
  ss := fun j a ha => by
    by_cases hj : j = i
    · subst hj; rw [updF_same] at ha; cases ha
    · rw [updF_ne hj] at ha; exact .inl ha
  val := fun j hj => by rw [List.getElem?_set_ne (by simpa using Ne.symm (by simpa using hj))]
  all := fun j hj a ha => by
    have hj : j ≠ i := by simpa using hj
    rw [updF_ne hj, updF_ne hj]; exact ha
  dep := fun j hj => by
    have hj : j ≠ i := by simpa using hj
    unfold depthAt
    rw [List.getElem?_set_ne (Ne.symm hj)]
    exact Nat.le_refl _
theorem set_set {α : Type} : ∀ (l : List α) (i : Nat) (a b : α), (l.set i a).set i b = l.set i b
  | [], _, _, _ => rfl
  | x :: l, 0, _, _ => rfl
  | x :: l, i + 1, a, b => by rw [List.set_cons_succ, List.set_cons_succ, List.set_cons_succ, set_set l i a b]
theorem updF_updF (f : FP) (i : Nat) (l m : List Addr) : updF (updF f i l) i m = updF f i m := by
  funext j; unfold updF; by_cases h : j = i <;> simp [h]
theorem RO.read0 {d : D} {n : Nat} {v : V} {o s : List Addr} (w : RO c H d n v o s) : ∃ s', RO c H d 0 v [] s' ∧ ∀ a, a ∈ s' ↔ a ∈ s ∨ a ∈ o := by
  obtain ⟨o', s', q, r, pr, ps⟩ := RO.weak d n 0 v o s (Nat.zero_le _) w
  have e := RO.zero d v o' s' q
  subst e
  exact ⟨s', q, fun a => by rw [ps, pr.mem_iff, List.nil_append]⟩
theorem Own.read0 {d : D} {n : Nat} {v : V} {o s : List Addr} (w : Own c H fo fs d n v o s) : ∃ s', Own c H fo fs d 0 v [] s' ∧ ∀ a, a ∈ s' ↔ a ∈ s ∨ a ∈ o := by
  obtain ⟨s', q, h⟩ := w.ro.read0
  exact ⟨s', ⟨q, List.nodup_nil, by simp, by simp, fun a ha i => ((h a).mp ha).elim (fun z => w.sf a z i) fun z => (w.of a z i).1, by simp, fun a ha => ((h a).mp ha).elim (w.ss a) fun z => (w.so a z).imp id .inl⟩, h⟩
/-- a slot's lists are shared from here on -/
theorem FR.shared (F : FR c en σ H fo fs) {i : Nat} {d : D} {n : Nat} (e : en[i]? = some (some (d, n))) : ∃ v s', σ[i]? = some (some v) ∧ FR c (en.set i (some (d, 0))) σ H (updF fo i []) (updF fs i s') ∧
    Step [] en (en.set i (some (d, 0))) H H fo fs (updF fo i []) (updF fs i s') ∧ RO c H d 0 v [] s' ∧ ∀ a, a ∈ s' ↔ a ∈ fs i ∨ a ∈ fo i := by
  have hi : i < en.length := by
    rcases Nat.lt_or_ge i en.length with h | h
    · exact h
    · rw [List.getElem?_eq_none h] at e; cases e
  obtain ⟨v, hv, w⟩ := F.took e
  obtain ⟨s', w', hs⟩ := w.read0
  have F' := (F.clear i).put (d := d) (n := 0) (fun p z => by rw [List.getElem?_set_self hi] at z; cases z) w' (by rw [List.length_set]; exact hi) hv
  rw [set_set, updF_updF, updF_updF] at F'
  refine ⟨v, s', hv, F', ⟨fun _ _ e _ _ => e, fun _ h => h, fun j a ha => ?_, fun j a ha => ?_, fun j hj => ?_, fun j hj a ha => ?_, fun j hj => ?_⟩, w'.ro, hs⟩
  · by_cases hj : j = i
    · subst hj; rw [updF_same] at ha; cases ha
    · rw [updF_ne hj] at ha; exact .inl ha
  · by_cases hj : j = i
    · subst hj; rw [updF_same] at ha; exact ((hs a).mp ha).elim .inl fun z => .inr (.inl z)
    · rw [updF_ne hj] at ha; exact .inl ha
  · by_cases hj : j = i
    · subst hj; rw [List.getElem?_set_self hi, e]; rfl
    · rw [List.getElem?_set_ne (Ne.symm hj)]
  · by_cases hj : j = i
    · subst hj; rw [updF_same, updF_same]; exact .inr ((hs a).mpr ha.symm)
    · rw [updF_ne hj, updF_ne hj]; exact ha
  · by_cases hj : j = i
    · subst hj; unfold depthAt; rw [List.getElem?_set_self hi]; exact Nat.zero_le _
    · unfold depthAt; rw [List.getElem?_set_ne (Ne.symm hj)]; exact Nat.le_refl _
end
section
variable {X : Cx} {c : Cb} {W : WX} {C : Orc}
/-! names, constants -/
theorem sem_const (G : Gd X c W) {e : Expr} {d : D} {v : V} (he : PE X e (tC v)) (hr : ∀ H, RO c H d 0 v [] []) : PEq X c W C e (.cst d) := by
  refine he.imp fun σ H Q h => ?_
  obtain ⟨en, fo, fs, F, hr'⟩ := h
  exact KE.atom (n := 0) hr' F .refl (hr H)
theorem sem_var (G : Gd X c W) {i : Nat} {x : Str} {pos : Pos} (he : PE X (.Name x pos) (tVar i)) : PEq X c W C (.Name x pos) (.var i) := by
  refine he.imp fun σ H Q h => ?_
  obtain ⟨en, fo, fs, F, hr⟩ := h
  have hr : Res c W σ (KE c σ [] en H fo fs Q) (rdVar i en) := hr
  unfold rdVar at hr
  split at hr
  · rename_i d e
    obtain ⟨v, hv, r⟩ := F.rel i d 0 e
    have e0 : fo i = [] := RO.zero d v _ _ r
    rw [e0] at r
    exact ⟨v, hv, hr v H fo fs [] (fs i) F .refl ⟨r, List.nodup_nil, by simp, by simp, fun a ha j z => (F.dj j i a z).1 ha, by simp, fun a => F.ss i a⟩ ⟨by simp, fun a ha => .inr ⟨i, .inr ha⟩⟩⟩
  · rename_i d n e
    obtain ⟨v, s', hv, F', st, r, hs⟩ := F.shared e
    refine ⟨v, hv, hr v H _ _ [] s' F' st ⟨r, List.nodup_nil, by simp, by simp, fun a ha j z => ?_, by simp, fun a ha => ((hs a).mp ha).elim (F.ss i a) fun z => (F.so i a z).imp id .inl⟩ ⟨by simp, fun a ha => ((hs a).mp ha).elim (fun z => .inr ⟨i, .inr z⟩) fun z => .inr ⟨i, .inl z⟩⟩⟩
    exact (F'.dj j i a z).1 (by rw [updF_same]; exact ha)
  · exact hr.elim
theorem sem_mv (G : Gd X c W) {i : Nat} {x : Str} {pos : Pos} (he : PE X (.Name x pos) (tVar i)) : PEq X c W C (.Name x pos) (.mv i) := by
  refine he.imp fun σ H Q h => ?_
  obtain ⟨en, fo, fs, F, hr⟩ := h
  have hr : Res c W σ (KE c σ [i] en H fo fs Q) (rdMv i en) := hr
  unfold rdMv at hr
  split at hr
  · rename_i d n e
    obtain ⟨v, hv, w⟩ := F.took e
    exact ⟨v, hv, hr v H _ _ _ _ (F.clear i) (clear_step i) w ⟨fun a ha => .inr ⟨i, by simp, ha⟩, fun a ha => .inr ⟨i, .inr ha⟩⟩⟩
  · exact hr.elim
theorem sem_bw (G : Gd X c W) {i : Nat} {x : Str} {pos : Pos} (he : PE X (.Name x pos) (tVar i)) : PEq X c W C (.Name x pos) (.bw i) := by
  refine he.imp fun σ H Q h => ?_
  obtain ⟨en, fo, fs, F, hr⟩ := h
  have hr : Res c W σ (KE c σ [] en H fo fs Q) (rdBw i en) := hr
  unfold rdBw at hr
  split at hr
  · rename_i d e
    obtain ⟨v, hv, r⟩ := F.rel i d 0 e
    have e0 : fo i = [] := RO.zero d v _ _ r
    rw [e0] at r
    exact ⟨v, hv, hr v H fo fs [] (fs i) F .refl ⟨r, List.nodup_nil, by simp, by simp, fun a ha j z => (F.dj j i a z).1 ha, by simp, fun a => F.ss i a⟩ ⟨by simp, fun a ha => .inr ⟨i, .inr ha⟩⟩⟩
  · rename_i d n e
    obtain ⟨v, hv, r⟩ := F.rel i d (n + 1) e
    exact ⟨v, hv, hr v H fo fs [] [] F .refl ⟨rfl, rfl, ⟨fo i, fs i, r, fun a => .inl, fun a ha => ⟨.inr ha, fun j z => (F.dj j i a z).1 ha⟩⟩, fun _ => ⟨by rw [e]; rfl, hv⟩⟩ .nil⟩
  · exact hr.elim
end
section
variable {c : Cb} {W : WX} {mu ma mb : List Nat} {en en1 en2 : En} {σ : L2.St} {H H1 H2 : Hp} {fo fs fo1 fs1 fo2 fs2 : FP} {Q : VK}
theorem Res.imp {α : Type} {K K' : α → En → Prop} (k : ∀ a e, K a e → K' a e) : ∀ {o : Out α}, Res c W σ K o → Res c W σ K' o
  | .ok a e, h => k a e h
  | .exc _ _, h => h
  | .stuck, h => h
theorem KE.after {r : D × Kd} {e : En} (k : KE c σ mu en H fo fs Q r e) (st : Step ma en en1 H H1 fo fs fo1 fs1) (h1 : ∀ i, i ∈ ma → i ∈ mu) (h2 : ∀ i, i ∈ mb → i ∈ mu) : KE c σ mb en1 H1 fo1 fs1 Q r e :=
  fun v H' fo' fs' o s F' st' t n => k v H' fo' fs' o s F' ((st.mono h1).trans (st'.mono h2)) t ((n.mono h2).back st h1)
theorem KA.after {QA : List V → Hp → Prop} {r : List (D × Kd)} {e : En} (k : KA c σ mu en H fo fs QA r e) (st : Step ma en en1 H H1 fo fs fo1 fs1) (h1 : ∀ i, i ∈ ma → i ∈ mu) (h2 : ∀ i, i ∈ mb → i ∈ mu) : KA c σ mb en1 H1 fo1 fs1 QA r e :=
  fun v H' fo' fs' o s F' st' t n => k v H' fo' fs' o s F' ((st.mono h1).trans (st'.mono h2)) t ((n.mono h2).back st h1)
theorem KT.after {QT : Bool → Hp → Prop} {r : Bool} {e : En} (k : KT c σ mu en H fo fs QT r e) (st : Step ma en en1 H H1 fo fs fo1 fs1) (h1 : ∀ i, i ∈ ma → i ∈ mu) (h2 : ∀ i, i ∈ mb → i ∈ mu) : KT c σ mb en1 H1 fo1 fs1 QT r e :=
  fun H' fo' fs' F' st' => k H' fo' fs' F' ((st.mono h1).trans (st'.mono h2))
theorem tE_after {den : En → Out (D × Kd)} (F : FR c en1 σ H1 fo1 fs1) (h : Res c W σ (KE c σ mu en H fo fs Q) (den en1)) (st : Step ma en en1 H H1 fo fs fo1 fs1) (h1 : ∀ i, i ∈ ma → i ∈ mu) (h2 : ∀ i, i ∈ mb → i ∈ mu) : tE c W mb den σ H1 Q :=
  ⟨en1, fo1, fs1, F, h.imp fun _ _ k => k.after st h1 h2⟩
theorem tA_after {QA : List V → Hp → Prop} {den : En → Out (List (D × Kd))} (F : FR c en1 σ H1 fo1 fs1) (h : Res c W σ (KA c σ mu en H fo fs QA) (den en1)) (st : Step ma en en1 H H1 fo fs fo1 fs1) (h1 : ∀ i, i ∈ ma → i ∈ mu) (h2 : ∀ i, i ∈ mb → i ∈ mu) : tAr c W mb den σ H1 QA :=
  ⟨en1, fo1, fs1, F, h.imp fun _ _ k => k.after st h1 h2⟩
theorem tT_after {QT : Bool → Hp → Prop} {den : En → Out Bool} (F : FR c en1 σ H1 fo1 fs1) (h : Res c W σ (KT c σ mu en H fo fs QT) (den en1)) (st : Step ma en en1 H H1 fo fs fo1 fs1) (h1 : ∀ i, i ∈ ma → i ∈ mu) (h2 : ∀ i, i ∈ mb → i ∈ mu) : tTs c W mb den σ H1 QT :=
  ⟨en1, fo1, fs1, F, h.imp fun _ _ k => k.after st h1 h2⟩
theorem inL {a b : List Nat} : ∀ i, i ∈ a → i ∈ a ++ b := fun _ h => List.mem_append_left _ h
theorem inR {a b : List Nat} : ∀ i, i ∈ b → i ∈ a ++ b := fun _ h => List.mem_append_right _ h
end
section
variable {X : Cx} {c : Cb} {W : WX} {C : Orc}
/-! and, or -/
theorem sem_and1 (G : Gd X c W) {a : Expr} {qa : E} {pos : Pos} (ha : PEq X c W C a qa) : PE X (.BoolOp .And [a] pos) (tE c W (muL (.cons qa .nil)) (evAnd C (.cons qa .nil))) := by
  refine (pe_one ha).imp fun σ H Q h => ?_
  obtain ⟨en, fo, fs, F, hr⟩ := h
  refine tE_seq F hr fun r e1 hx v H1 fo1 fs1 o s F1 st tx nx => ?_
  have st' : Step (muE qa ++ []) en e1 H H1 fo fs fo1 fs1 := st.mono inL
  split at hx
  · rename_i b hb
    rw [tx.blV hb]
    exact KE.bool hx F1 st'
  · exact hx.elim
theorem sem_andN (G : Gd X c W) {a b : Expr} {es : List Expr} {qa : E} {ma : List Nat} {dn : En → Out (D × Kd)} {pos : Pos} (ha : PEq X c W C a qa) (hb : PE X (.BoolOp .And (b :: es) pos) (tE c W ma dn)) :
    PE X (.BoolOp .And (a :: b :: es) pos) (tE c W (muE qa ++ ma) (fun en => (ev C qa en).bind fun x e1 => match x.1 with
      | .bool true => dn e1
      | .bool false => .ok (.bool false, .own 0) e1
      | _ => .stuck)) := by
  refine (pe_and ha hb).imp fun σ H Q h => ?_
  obtain ⟨en, fo, fs, F, hr⟩ := h
  refine tE_seq F hr fun r e1 hx v H1 fo1 fs1 o s F1 st tx nx => ?_
  split at hx
  · rename_i hb
    exact ⟨true, tx.blV hb, by rw [if_pos rfl]; exact tE_after F1 hx st inL inR⟩
  · rename_i hb
    exact ⟨false, tx.blV hb, by rw [if_neg Bool.false_ne_true]; exact KE.bool hx F1 (st.mono inL)⟩
  · exact hx.elim
theorem sem_or1 (G : Gd X c W) {a : Expr} {qa : E} {pos : Pos} (ha : PEq X c W C a qa) : PE X (.BoolOp .Or [a] pos) (tE c W (muL (.cons qa .nil)) (evOr C (.cons qa .nil))) := by
  refine (pe_one ha).imp fun σ H Q h => ?_
  obtain ⟨en, fo, fs, F, hr⟩ := h
  refine tE_seq F hr fun r e1 hx v H1 fo1 fs1 o s F1 st tx nx => ?_
  have st' : Step (muE qa ++ []) en e1 H H1 fo fs fo1 fs1 := st.mono inL
  split at hx
  · rename_i b hb
    rw [tx.blV hb]
    exact KE.bool hx F1 st'
  · exact hx.elim
theorem sem_orN (G : Gd X c W) {a b : Expr} {es : List Expr} {qa : E} {ma : List Nat} {dn : En → Out (D × Kd)} {pos : Pos} (ha : PEq X c W C a qa) (hb : PE X (.BoolOp .Or (b :: es) pos) (tE c W ma dn)) :
    PE X (.BoolOp .Or (a :: b :: es) pos) (tE c W (muE qa ++ ma) (fun en => (ev C qa en).bind fun x e1 => match x.1 with
      | .bool true => .ok (.bool true, .own 0) e1
      | .bool false => dn e1
      | _ => .stuck)) := by
  refine (pe_or ha hb).imp fun σ H Q h => ?_
  obtain ⟨en, fo, fs, F, hr⟩ := h
  refine tE_seq F hr fun r e1 hx v H1 fo1 fs1 o s F1 st tx nx => ?_
  split at hx
  · rename_i hb
    exact ⟨true, tx.blV hb, by rw [if_pos rfl]; exact KE.bool hx F1 (st.mono inL)⟩
  · rename_i hb
    exact ⟨false, tx.blV hb, by rw [if_neg Bool.false_ne_true]; exact tE_after F1 hx st inL inR⟩
  · exact hx.elim
/-! a if c else b -/
abbrev PTq (X : Cx) (c : Cb) (W : WX) (C : Orc) (e : Expr) (q : E) : Prop := PT X e (tTs c W (muE q) (evB C q))
theorem sem_ite (G : Gd X c W) {t a b : Expr} {qt qa qb : E} {pos : Pos} (ht : PTq X c W C t qt) (ha : PEq X c W C a qa) (hb : PEq X c W C b qb) : PEq X c W C (.IfExp t a b pos) (.ite qt qa qb) := by
  refine (pe_ifExp ht ha hb).imp fun σ H Q h => ?_
  obtain ⟨en, fo, fs, F, hr⟩ := h
  have hr' : Res c W σ (KE c σ ((muE qt ++ muE qa) ++ muE qb) en H fo fs Q) ((evB C qt en).bind fun b e1 => if b = true then ev C qa e1 else ev C qb e1) := by
    have hr0 : Res c W σ (KE c σ ((muE qt ++ muE qa) ++ muE qb) en H fo fs Q) ((ev C qt en).bind fun x e1 => match x.1 with
      | .bool true => ev C qa e1
      | .bool false => ev C qb e1
      | _ => .stuck) := hr
    unfold evB
    cases hq : ev C qt en with
    | stuck => rw [hq] at hr0; exact hr0
    | exc x e1 => rw [hq] at hr0; exact hr0
    | ok x e1 =>
      rw [hq] at hr0
      rw [Out.bind_ok] at hr0 ⊢
      split at hr0
      · rename_i hb; rw [hb]; exact hr0
      · rename_i hb; rw [hb]; exact hr0
      · exact hr0.elim
  refine tT_seq F hr' fun b e1 hx H1 fo1 fs1 F1 st => ?_
  cases b with
  | true => rw [if_pos rfl] at hx ⊢; exact tE_after F1 hx st (fun i h => inL i (inL i h)) fun i h => inL i (inR i h)
  | false => rw [if_neg Bool.false_ne_true] at hx ⊢; exact tE_after F1 hx st (fun i h => inL i (inL i h)) inR
/-! rows of values -/
theorem sem_nil (G : Gd X c W) : PAq X c W C [] .nil := by
  refine pa_nil.imp fun σ H Q h => ?_
  obtain ⟨en, fo, fs, F, hr⟩ := h
  exact hr [] H fo fs [] [] F .refl ⟨rfl, rfl, rfl⟩ .nil
theorem sem_cons (G : Gd X c W) {e : Expr} {es : List Expr} {q : E} {qs : EL} (he : PEq X c W C e q) (hes : PAq X c W C es qs) (hs : starEach (e :: es) X.env = (false, eval e X.env) :: starEach es X.env) : PAq X c W C (e :: es) (.cons q qs) := by
  refine (pa_cons he hes hs).imp fun σ H Q h => ?_
  obtain ⟨en, fo, fs, F, hr⟩ := h
  refine tE_seq F hr fun r e1 hx v H1 fo1 fs1 o s F1 st1 tx nx => ?_
  refine tA_seq F1 hx fun rs e2 hy vs H2 fo2 fs2 O S F2 st2 ty ny => ?_
  split at hy
  · rename_i hp
    have a := tx.apart ny
    refine hy (v :: vs) H2 fo2 fs2 (o ++ O) (s ++ S) F2 (st1.seq st2) ⟨v, vs, o, s, O, S, rfl, tx.carry F1 st2 hp, ty, rfl, rfl, a.1, a.2⟩ ((nx.mono inL).app ((ny.mono inR).back st1 inL))
  · exact hy.elim
/-! chains -/
theorem ch2_read (o p : CP) {qa qb qd : E} {σ : L2.St} {H : Hp} {Q : VK} (h : tE c W (muE (.ch2 o p qa qb qd)) (ev C (.ch2 o p qa qb qd)) σ H Q) : tChain (rCmp c o) (rCmp c p) (tE c W (muE qa) (ev C qa)) (tE c W (muE qb) (ev C qb)) (tE c W (muE qd) (ev C qd)) σ H Q := by
  obtain ⟨en, fo, fs, F, hr⟩ := h
  have hr : Res c W σ (KE c σ (muE qa ++ muE qb ++ muE qd) en H fo fs Q) ((ev C qa en).bind fun x e1 => (ev C qb e1).bind fun y e2 => if pend x (muE qb) then match cmpD o x.1 y.1 with
      | some true => (ev C qd e2).bind fun z e3 => if pend y (muE qd) then okB (cmpD p y.1 z.1) e3 else .stuck
      | some false => .ok (.bool false, .own 0) e2
      | none => .stuck
    else .stuck) := hr
  refine tE_seq F hr fun x e1 hx v H1 fo1 fs1 o1 s1 F1 st1 tx nx => ?_
  refine tE_seq F1 hx fun y e2 hy w H2 fo2 fs2 o2 s2 F2 st2 ty ny => ?_
  split at hy
  · rename_i hp
    obtain ⟨t1, q1⟩ := (tx.carry F1 st2 hp).read
    obtain ⟨t2, q2⟩ := ty.read
    cases hd : cmpD o x.1 y.1 with
    | none => rw [hd] at hy; exact hy.elim
    | some k =>
      rw [hd] at hy
      refine ⟨x.1, y.1, t1, t2, k, q1, q2, hd, k, rfl, ?_⟩
      cases k with
      | false => rw [if_neg Bool.false_ne_true]; exact KE.bool hy F2 ((st1.seq st2).mono inL)
      | true =>
        rw [if_pos rfl]
        refine tE_seq F2 hy fun z e3 hz u H3 fo3 fs3 o3 s3 F3 st3 tz nz => ?_
        split at hz
        · rename_i hp2
          obtain ⟨t3, q3⟩ := (ty.carry F2 st3 hp2).read
          obtain ⟨t4, q4⟩ := tz.read
          cases hd2 : cmpD p y.1 z.1 with
          | none => rw [hd2] at hz; exact hz.elim
          | some k => rw [hd2] at hz; exact ⟨y.1, z.1, t3, t4, k, q3, q4, hd2, KE.bool hz F3 ((st1.seq st2).seq st3)⟩
        · exact hz.elim
  · exact hy.elim
theorem sem_ch2 (G : Gd X c W) {a b d : Expr} {qa qb qd : E} {pos : Pos} (o p : CP) (ha : PEq X c W C a qa) (hb : PEq X c W C b qb) (hd : PEq X c W C d qd) (hm : lastMarks [opC o, opC p] [b, d] = false) :
    PEq X c W C (.Compare a [opC o, opC p] [b, d] pos) (.ch2 o p qa qb qd) :=
  (pe_chain (op_cmp G.hK G.hu o) (op_cmp G.hK G.hu p) ha hb hd hm).imp fun σ H Q h => ch2_read o p h
/-! new tuples, new lists -/
theorem keepK_own {r : D × Kd} {n : Nat} (h : keepK r = some n) : r.2 = .own n ∨ (lf r.1 = true ∧ n = 0) := by
  obtain ⟨d, k⟩ := r
  cases k with
  | own m => exact .inl (by have : some m = some n := h; rw [Option.some.inj this])
  | root i m w =>
    have h : (if lf d then some 0 else none) = some n := h
    split at h
    · rename_i l; exact .inr ⟨l, (Option.some.inj h).symm⟩
    · cases h
variable {en en1 : En} {σ : L2.St} {H H1 : Hp} {fo fs fo1 fs1 : FP}
/-- a kept value by itself -/
theorem TV.kept {mu : List Nat} {r : D × Kd} {v : V} {o s : List Addr} {n : Nat} (t : TV c en1 σ H1 fo1 fs1 r v o s) (nw : New mu H fo fs o s) (h : keepK r = some n) : ∃ o' s', Own c H1 fo1 fs1 r.1 n v o' s' ∧ New mu H fo fs o' s' ∧ (∀ a, a ∈ o' → a ∈ o) ∧ ∀ a, a ∈ s' → a ∈ s ∨ a ∈ o := by
  rcases keepK_own h with h | ⟨l, e⟩
  · obtain ⟨d, k⟩ := r
    cases h
    exact ⟨o, s, t, nw, fun _ h => h, fun _ h => .inl h⟩
  · exact ⟨[], [], t.lf l n, .nil, by simp, by simp⟩
/-- kept values, to the depth k each (those without lists: to any) -/
def depOk (k : Nat) (r : D × Kd) : Bool := lf r.1 || match r.2 with
  | .own n => decide (k ≤ n)
  | .root _ _ _ => false
theorem TVs.kept {mu : List Nat} {k : Nat} : ∀ {rs : List (D × Kd)} {vs : List V} {O S : List Addr}, TVs c en1 σ H1 fo1 fs1 rs vs O S → New mu H fo fs O S → (rs.all (depOk k)) = true →
    ∃ O' S', ROs c H1 (dsOf rs) k vs O' S' ∧ New mu H fo fs O' S' ∧ O'.Nodup ∧ (∀ a, a ∈ O' → a ∉ S') ∧ (∀ a, a ∈ O' → ∀ i, a ∉ fo1 i ∧ a ∉ fs1 i) ∧ (∀ a, a ∈ S' → ∀ i, a ∉ fo1 i) ∧ (∀ a, a ∈ O' → Src c a) ∧ (∀ a, a ∈ S' → SrcS c a) ∧ (∀ a, a ∈ O' → a ∈ O) ∧ ∀ a, a ∈ S' → a ∈ S ∨ a ∈ O
  | [], _, _, _, ⟨e, eO, eS⟩, nw, _ => ⟨[], [], by rw [e]; exact ROs.mkNil, .nil, List.nodup_nil, by simp, by simp, by simp, by simp, by simp, by simp, by simp⟩
  | r :: rs, _, _, _, ⟨v, vs', o, s, O, S, e, t, ts, eO, eS, d1, d2⟩, nw, h => by
    subst e eO eS
    rw [List.all_cons, Bool.and_eq_true] at h
    have nw1 : New mu H fo fs o s := ⟨fun a ha => nw.1 a (List.mem_append_left _ ha), fun a ha => nw.2 a (List.mem_append_left _ ha)⟩
    have nw2 : New mu H fo fs O S := ⟨fun a ha => nw.1 a (List.mem_append_right _ ha), fun a ha => nw.2 a (List.mem_append_right _ ha)⟩
    have one : ∃ o' s', Own c H1 fo1 fs1 r.1 k v o' s' ∧ New mu H fo fs o' s' ∧ (∀ a, a ∈ o' → a ∈ o) ∧ ∀ a, a ∈ s' → a ∈ s ∨ a ∈ o := by
      by_cases hl : lf r.1 = true
      · exact ⟨[], [], t.lf hl k, .nil, by simp, by simp⟩
      · obtain ⟨d, kd⟩ := r
        have h1 := h.1
        unfold depOk at h1
        rw [Bool.or_eq_true] at h1
        rcases h1 with h1 | h1
        · exact absurd h1 hl
        · cases kd with
          | root i m w => cases h1
          | own n => exact Own.weak t (of_decide_eq_true h1) nw1
    obtain ⟨o', s', w, n1, i1, i2⟩ := one
    obtain ⟨O', S', rr, n2, nd, os, of, sf, so, ss, j1, j2⟩ := TVs.kept ts nw2 h.2
    have x1 : ∀ a, a ∈ o' → a ∉ O' ∧ a ∉ S' := fun a ha => ⟨fun z => (d1 a (i1 a ha)).1 (j1 a z), fun z => (j2 a z).elim (d1 a (i1 a ha)).2 (d1 a (i1 a ha)).1⟩
    have x2 : ∀ a, a ∈ s' → a ∉ O' := fun a ha z => (i2 a ha).elim (fun q => d2 a q (j1 a z)) fun q => (d1 a q).1 (j1 a z)
    refine ⟨o' ++ O', s' ++ S', ROs.mkCons w.ro rr, n1.app n2, ?_, ?_, ?_, ?_, ?_, ?_, ?_, ?_⟩
    · exact List.nodup_append.mpr ⟨w.nd, nd, fun a ha b hb e => (x1 a ha).1 (e ▸ hb)⟩
    · intro a ha z
      rcases List.mem_append.mp ha with ha | ha <;> rcases List.mem_append.mp z with z | z
      · exact w.os a ha z
      · exact (x1 a ha).2 z
      · exact x2 a z ha
      · exact os a ha z
    · exact fun a ha => (List.mem_append.mp ha).elim (w.of a) (of a)
    · exact fun a ha => (List.mem_append.mp ha).elim (w.sf a) (sf a)
    · exact fun a ha => (List.mem_append.mp ha).elim (w.so a) (so a)
    · exact fun a ha => (List.mem_append.mp ha).elim (w.ss a) (ss a)
    · exact fun a ha => (List.mem_append.mp ha).elim (fun h => List.mem_append_left _ (i1 a h)) fun h => List.mem_append_right _ (j1 a h)
    · exact fun a ha => (List.mem_append.mp ha).elim (fun h => (i2 a h).imp (List.mem_append_left _) (List.mem_append_left _)) fun h => (j2 a h).imp (List.mem_append_right _) (List.mem_append_right _)
theorem TVs.len : ∀ {rs : List (D × Kd)} {vs : List V} {O S : List Addr}, TVs c en σ H fo fs rs vs O S → rs.length = vs.length
  | [], _, _, _, ⟨e, _, _⟩ => by rw [e]; rfl
  | r :: rs, _, _, _, ⟨v, vs', o, s, O, S, e, t, ts, _, _, _, _⟩ => by rw [e, List.length_cons, List.length_cons, TVs.len ts]
theorem depOk_of_keep {r : D × Kd} (h : (keepK r).isSome = true) : depOk 0 r = true := by
  obtain ⟨d, k⟩ := r
  cases k with
  | own m => unfold depOk; simp
  | root i m w =>
    have h : (if lf d then some 0 else none : Option Nat).isSome = true := h
    split at h
    · rename_i l; unfold depOk; rw [show lf (d, Kd.root i m w).1 = true from l]; rfl
    · cases h
theorem depOk_of_item {k : Nat} {r : D × Kd} (h : keepItem (k + 1) r = true) : depOk k r = true := by
  obtain ⟨d, kd⟩ := r
  unfold keepItem at h
  unfold depOk
  rw [Bool.or_eq_true] at h ⊢
  refine h.imp id fun h => ?_
  cases kd with
  | own n => exact decide_eq_true (by have := of_decide_eq_true h; omega)
  | root i m w => cases h
def elLen : EL → Nat
  | .nil => 0
  | .cons _ es => elLen es + 1
theorem evL_len : ∀ (qs : EL) (en : En) (rs : List (D × Kd)) (e : En), evL C qs en = .ok rs e → rs.length = elLen qs
  | .nil, en, rs, e, h => by
    have h : Out.ok [] en = .ok rs e := h
    cases h; rfl
  | .cons q qs, en, rs, e, h => by
    have h : ((ev C q en).bind fun r e1 => (evL C qs e1).bind fun rs e2 => if pend r (muL qs) then .ok (r :: rs) e2 else .stuck) = .ok rs e := h
    cases h1 : ev C q en with
    | stuck => rw [h1] at h; cases h
    | exc x e1 => rw [h1] at h; cases h
    | ok r e1 =>
      rw [h1, Out.bind_ok] at h
      cases h2 : evL C qs e1 with
      | stuck => rw [h2] at h; cases h
      | exc x e1 => rw [h2] at h; cases h
      | ok rs2 e2 =>
        rw [h2, Out.bind_ok] at h
        split at h
        · cases h
          rw [List.length_cons, evL_len qs e1 rs2 _ h2]; rfl
        · cases h
theorem tA_seqE {W : WX} {mu : List Nat} {β : Type} {K : β → En → Prop} {den : En → Out (List (D × Kd))} {f : List (D × Kd) → En → Out β} {Q : List V → Hp → Prop} (F : FR c en σ H fo fs) (h : Res c W σ K ((den en).bind f))
    (k : ∀ r e1, den en = .ok r e1 → Res c W σ K (f r e1) → KA c σ mu en H fo fs Q r e1) : tAr c W mu den σ H Q := by
  refine ⟨en, fo, fs, F, ?_⟩
  cases e : den en with
  | stuck => rw [e] at h; exact h
  | exc x e1 => rw [e] at h; exact h
  | ok r e1 => rw [e] at h; exact k r e1 e h
theorem sem_tup (G : Gd X c W) {es : List Expr} {qs : EL} {k : Nat} {pos : Pos} (hes : PAq X c W C es qs) (hl : elLen qs ≤ LIM) : PEq X c W C (.Tuple es k pos) (.tup qs) := by
  refine (pe_tupN hes).imp fun σ H Q h => ?_
  obtain ⟨en, fo, fs, F, hr⟩ := h
  have hr : Res c W σ (KE c σ (muL qs) en H fo fs Q) ((evL C qs en).bind fun rs e1 => if rs.all fun r => (keepK r).isSome then .ok (.tuple (dsOf rs), .own 0) e1 else .stuck) := hr
  refine tA_seqE F hr fun rs e1 he hx vs H1 fo1 fs1 O S F1 st ts nw => ?_
  split at hx
  · rename_i ha
    refine ⟨by rw [← ts.len, evL_len qs en rs e1 he, lim]; exact hl, fun p oo hp hdo => ?_⟩
    obtain ⟨O', S', rr, n2, nd, os, of, sf, so, ss, _, _⟩ := ts.kept (k := 0) nw (by
      rw [List.all_eq_true] at ha ⊢
      exact fun r hr => depOk_of_keep (ha r hr))
    have e0 : O' = [] := ROs.zero _ vs O' S' rr
    subst e0
    exact hx (.ref p) _ fo1 fs1 [] S' (F1.laid hp) (st.trans (Step.laid hp)) ⟨by rw [RO]; exact ⟨p, vs, rfl, SqN.of upd_same hdo, rr.laid hp⟩, List.nodup_nil, by simp, by simp, fun a ha i => sf a ha i, by simp, ss⟩ n2
  · exact hx.elim
theorem sem_lst (G : Gd X c W) {es : List Expr} {qs : EL} {k : Nat} {pos : Pos} (hes : PAq X c W C es qs) (hl : elLen qs ≤ LIM) : PEq X c W C (.List es pos) (.lst k qs) := by
  refine (pe_lst hes).imp fun σ H Q h => ?_
  obtain ⟨en, fo, fs, F, hr⟩ := h
  have hr : Res c W σ (KE c σ (muL qs) en H fo fs Q) ((evL C qs en).bind fun rs e1 => if (rs.all fun r => (keepK r).isSome) && rs.all (keepItem k) then .ok (.list (dsOf rs), .own k) e1 else .stuck) := hr
  refine tA_seqE F hr fun rs e1 he hx vs H1 fo1 fs1 O S F1 st ts nw => ?_
  split at hx
  · rename_i ha
    rw [Bool.and_eq_true] at ha
    refine ⟨by rw [← ts.len, evL_len qs en rs e1 he, lim]; exact hl, fun p hp => ?_⟩
    cases k with
    | zero =>
      obtain ⟨O', S', rr, n2, nd, os, of, sf, so, ss, _, _⟩ := ts.kept (k := 0) nw (by
        rw [List.all_eq_true]
        exact fun r hr => depOk_of_keep (List.all_eq_true.mp ha.1 r hr))
      have e0 : O' = [] := ROs.zero _ vs O' S' rr
      subst e0
      have hs0 : SrcS c p := (F1.newSrc hp).imp id .inl
      refine hx (.ref p) _ fo1 fs1 [] (p :: S') (F1.laid hp) (st.trans (Step.laid hp)) ⟨by rw [RO]; exact ⟨p, vs, rfl, upd_same, S', rr.laid hp, rfl⟩, List.nodup_nil, by simp, by simp, fun a ha i => ?_, by simp, fun a ha => ?_⟩ ⟨by simp, fun a ha => ?_⟩
      · rcases List.mem_cons.mp ha with e | ha
        · subst e; exact fun h => F1.there (.inl h) hp
        · exact sf a ha i
      · rcases List.mem_cons.mp ha with e | ha
        · subst e; exact hs0
        · exact ss a ha
      · rcases List.mem_cons.mp ha with e | ha
        · subst e; exact .inl (st.new hp)
        · exact n2.2 a ha
    | succ m =>
      obtain ⟨O', S', rr, n2, nd, os, of, sf, so, ss, _, _⟩ := ts.kept (k := m) nw (by
        rw [List.all_eq_true]
        exact fun r hr => depOk_of_item (List.all_eq_true.mp ha.2 r hr))
      refine hx (.ref p) _ fo1 fs1 (p :: O') S' (F1.laid hp) (st.trans (Step.laid hp)) (Own.newList F1 rr hp nd os of sf so ss) ⟨fun a ha => ?_, n2.2⟩
      rcases List.mem_cons.mp ha with e | ha
      · subst e; exact .inl (st.new hp)
      · exact n2.1 a ha
  · exact hx.elim
/-! a[b] -/
theorem sem_ix (G : Gd X c W) {a b : Expr} {qa qb : E} {pos : Pos} (ha : PEq X c W C a qa) (hb : PEq X c W C b qb) (hs : PlainIx b) : PEq X c W C (.Subscript a b pos) (.ix qa qb) := by
  refine (pe_ix (ix_Q G.hK) ha hb hs).imp fun σ H Q h => sem2 (g := fun x y e2 => if pend x (muE qb) then ixR e2 x y.1 else .stuck) (fun {en H fo fs} x y e v w H2 fo2 fs2 o1 s1 o2 s2 F F2 st tx ty nx ny hr => ?_) h
  split at hr
  · rename_i hp
    have tx := tx hp
    unfold ixR at hr
    split at hr
    · rename_i d hd
      obtain ⟨i, hi⟩ : ∃ i, y.1 = .int i := by
        unfold getD at hd
        split at hd
        · rename_i h; exact ⟨_, h⟩
        · rename_i h; exact ⟨_, h⟩
        · rename_i h; exact ⟨_, h⟩
        · rename_i h; exact ⟨_, h⟩
        · cases hd
      have hw := ty.intV hi
      rw [hi] at hd
      obtain ⟨dx, kx⟩ := x
      cases kx with
      | own n =>
        have tx : Own c H2 fo2 fs2 dx n v o1 s1 := tx
        obtain ⟨s0, q, hs0⟩ := tx.read0
        refine ⟨dx, i, d, 0, [], s0, q.ro, hw, hd, fun v' o' s' r ho hs' => ?_⟩
        have eo : o' = [] := List.eq_nil_iff_forall_not_mem.mpr fun a ha => by simpa using ho a ha
        subst eo
        have r0 : RO c H2 d 0 v' [] s' := by
          have : subK dx 0 = 0 := by unfold subK; split <;> rfl
          rw [this] at r; exact r
        exact hr v' H2 fo2 fs2 [] s' F2 st ⟨r0, List.nodup_nil, by simp, by simp, fun a ha => q.sf a (hs' a ha), by simp, fun a ha => q.ss a (hs' a ha)⟩
          ⟨by simp, fun a ha => ((hs0 a).mp (hs' a ha)).elim (nx.2 a) fun z => (nx.1 a z).imp id fun ⟨j, _, q⟩ => ⟨j, .inl q⟩⟩
      | root i0 m w0 =>
        obtain ⟨e1, e2, ⟨o0, s0, q, ho, hs0⟩, _⟩ := tx
        refine ⟨dx, i, d, m, o0, s0, q, hw, hd, fun v' o' s' r ho' hs' => ?_⟩
        have src : ∀ a, a ∈ fo2 i0 ∨ a ∈ fs2 i0 → SrcS c a ∧ (H a = none ∨ ∃ j, a ∈ fo j ∨ a ∈ fs j) := fun a h => by
          rcases h with h | h
          · refine ⟨(F2.so i0 a h).imp id .inl, ?_⟩
            rcases st.oo i0 a h with z | ⟨_, z | ⟨j, _, z⟩⟩
            · exact .inr ⟨i0, .inl z⟩
            · exact .inl z
            · exact .inr ⟨j, .inl z⟩
          · refine ⟨F2.ss i0 a h, ?_⟩
            rcases st.ss i0 a h with z | z | ⟨_, z⟩
            · exact .inr ⟨i0, .inr z⟩
            · exact .inr ⟨i0, .inl z⟩
            · exact z
        by_cases hl : lf d = true
        · obtain ⟨_, _, r'⟩ := RO.lf d _ 0 v' o' s' hl r
          have hk : itemK (dx, .root i0 m w0) d = .own 0 := by unfold itemK; simp [hl]
          rw [hk] at hr
          exact hr v' H2 fo2 fs2 [] [] F2 st (Own.atom r') .nil
        · by_cases hx : ∃ xs, dx = .list xs
          · obtain ⟨xs, rfl⟩ := hx
            by_cases hm : m ≤ 1
            · have hk : itemK (.list xs, .root i0 m w0) d = .own 0 := by unfold itemK; simp [hl, hm]
              rw [hk] at hr
              have hm0 : subK (.list xs) m = 0 := by show m - 1 = 0; omega
              rw [hm0] at r
              have eo : o' = [] := RO.zero d v' o' s' r
              subst eo
              exact hr v' H2 fo2 fs2 [] s' F2 st ⟨r, List.nodup_nil, by simp, by simp, fun a ha => (hs0 a (hs' a ha)).2, by simp, fun a ha => (src a (hs0 a (hs' a ha)).1).1⟩
                ⟨by simp, fun a ha => (src a (hs0 a (hs' a ha)).1).2⟩
            · have hk : itemK (.list xs, .root i0 m w0) d = .root i0 (m - 1) false := by unfold itemK; simp [hl, hm]
              rw [hk] at hr
              exact hr v' H2 fo2 fs2 [] [] F2 st ⟨rfl, rfl, ⟨o', s', r, fun a ha => ho a (ho' a ha), fun a ha => hs0 a (hs' a ha)⟩, fun z => by cases z⟩ .nil
          · have hk : itemK (dx, .root i0 m w0) d = .root i0 m false := by
              unfold itemK
              cases dx <;> first | exact absurd ⟨_, rfl⟩ hx | simp [hl]
            rw [hk] at hr
            have hm0 : subK dx m = m := by cases dx <;> first | rfl | exact absurd ⟨_, rfl⟩ hx
            rw [hm0] at r
            exact hr v' H2 fo2 fs2 [] [] F2 st ⟨rfl, rfl, ⟨o', s', r, fun a ha => ho a (ho' a ha), fun a ha => hs0 a (hs' a ha)⟩, fun z => by cases z⟩ .nil
    · exact hr.elim
  · exact hr.elim
/-! slices -/
theorem sem_sl (G : Gd X c W) {a : Expr} {lo hi : Option Expr} {qa : E} {ql qh : OE} {p2 pos : Pos} (ha : PEq X c W C a qa)
    (hl : match lo, ql with | none, .none => True | some l, .some q => PEq X c W C l q | _, _ => False) (hh : match hi, qh with | none, .none => True | some l, .some q => PEq X c W C l q | _, _ => False) :
    PEq X c W C (.Subscript a (.Slice lo hi none p2) pos) (.sl qa ql qh) := by
  -- a part, as a step
  have part : ∀ {p : Option Expr} {q : OE}, (match p, q with | none, .none => True | some l, .some q => PEq X c W C l q | _, _ => False) → ∃ t : TO, PO X p t ∧
      ∀ {β : Type} {K : β → En → Prop} {f : Option Int → En → Out β} {σ : L2.St} {H : Hp} {en : En} {fo fs : FP} {Q : Option Int → Hp → Prop}, FR c en σ H fo fs → Res c W σ K ((evO C q en).bind f) →
        (∀ o e1 H1 fo1 fs1, Res c W σ K (f o e1) → FR c e1 σ H1 fo1 fs1 → Step (muO q) en e1 H H1 fo fs fo1 fs1 → Q o H1) → t σ H Q := by
    intro p q hpq
    cases p with
    | none =>
      cases q with
      | none =>
        refine ⟨tNoPart, po_none, fun F h k => ?_⟩
        rename_i β K f σ H en fo fs Q
        have h : Res c W σ K (f none en) := h
        exact k none en H fo fs h F .refl
      | some q => exact hpq.elim
    | some l =>
      cases q with
      | none => exact hpq.elim
      | some q =>
        refine ⟨_, po_some hpq, fun F h k => ?_⟩
        rename_i β K f σ H en fo fs Q
        have h : Res c W σ K (((ev C q en).bind fun r e1 => partO r.1 e1).bind f) := h
        have h2 : Res c W σ K ((ev C q en).bind fun r e1 => (partO r.1 e1).bind f) := by
          cases hq : ev C q en with
          | stuck => rw [hq] at h; exact h
          | exc x e1 => rw [hq] at h; exact h
          | ok r e1 => rw [hq] at h; exact h
        refine tE_seq F h2 fun r e1 hx v H1 fo1 fs1 o s F1 st tx nx => ?_
        unfold partO at hx
        split at hx
        · rename_i i hi
          exact ⟨i, tx.intV hi, k (some i) e1 H1 fo1 fs1 hx F1 st⟩
        · exact hx.elim
  obtain ⟨tl, pl, kl⟩ := part hl
  obtain ⟨th, ph, kh⟩ := part hh
  refine (pe_slice (sl_Q G.hK) ha pl ph).imp fun σ H Q h => ?_
  obtain ⟨en, fo, fs, F, hr⟩ := h
  have hr : Res c W σ (KE c σ (muE qa ++ muO ql ++ muO qh) en H fo fs Q) ((ev C qa en).bind fun x e1 => (evO C ql e1).bind fun l e2 => (evO C qh e2).bind fun h e3 => if pend x (muO ql ++ muO qh) then slR e3 x l h else .stuck) := hr
  refine tE_seq F hr fun x e1 hx v H1 fo1 fs1 o1 s1 F1 st1 tx nx => ?_
  refine kl F1 hx fun l e2 H2 fo2 fs2 hy F2 st2 => ?_
  refine kh F2 hy fun h e3 H3 fo3 fs3 hz F3 st3 => ?_
  split at hz
  · rename_i hp
    unfold slR at hz
    split at hz
    · rename_i hi
      split at hz
      · rename_i d hd
        have st13 : Step (muO ql ++ muO qh) e1 e3 H1 H3 fo1 fs1 fo3 fs3 := st2.seq st3
        have st : Step (muE qa ++ muO ql ++ muO qh) en e3 H H3 fo fs fo3 fs3 := by
          rw [List.append_assoc]; exact st1.seq st13
        obtain ⟨i1, it1, sh1⟩ := (tx.carry F1 st13 hp).shared F3 st nx hi
        exact ⟨x.1, d, i1, it1, hd, Mk.of hz F3 st sh1⟩
      · exact hz.elim
    · exact hz.elim
  · exact hz.elim
/-! x[::-1] -/
theorem sem_rev (G : Gd X c W) {a : Expr} {qa : E} {k : Nat} {p1 p2 p3 pos : Pos} (ha : PEq X c W C a qa) : PEq X c W C (.Subscript a (.Slice none none (some (.UnaryOp .USub (.Constant (.int 1) k p1) p2)) p3) pos) (.rev qa) := by
  refine (pe_revQ G.hK ha).imp fun σ H Q h => sem1 (r := fun x H1 Q => ∃ d d' i, It c H1 d x i ∧ revD d = some d' ∧ Mk c H1 d' i Q) (g := fun x e1 => if itemsOk x then match revD x.1 with
      | some d => .ok (d, .own (flagOf d 1)) e1
      | none => .stuck
    else .stuck) (fun x e v H1 fo1 fs1 o s F F1 st tx nx hr => ?_) h
  split at hr
  · rename_i hi
    split at hr
    · rename_i d hd
      obtain ⟨i1, it1, sh1⟩ := tx.shared F1 st nx hi
      exact ⟨x.1, d, i1, it1, hd, Mk.of hr F1 st sh1⟩
    · exact hr.elim
  · exact hr.elim
/-! built-ins -/
theorem TVs.its {mu : List Nat} : ∀ {rs : List (D × Kd)} {vs : List V} {O S : List Addr}, TVs c en1 σ H1 fo1 fs1 rs vs O S → FR c en1 σ H1 fo1 fs1 → Step mu en en1 H H1 fo fs fo1 fs1 → New mu H fo fs O S → rs.all itemsOk = true →
    ∃ L, Its c H1 (dsOf rs) vs L ∧ Sh c fo1 H fo fs L
  | [], _, _, _, ⟨e, _, _⟩, F, st, nw, _ => ⟨[], ⟨e, rfl⟩, Sh.nil⟩
  | r :: rs, _, _, _, ⟨v, vs', o, s, O, S, e, t, ts, eO, eS, _, _⟩, F, st, nw, h => by
    subst e eO eS
    rw [List.all_cons, Bool.and_eq_true] at h
    obtain ⟨i, it, sh⟩ := t.shared F st (nw := ⟨fun a ha => nw.1 a (List.mem_append_left _ ha), fun a ha => nw.2 a (List.mem_append_left _ ha)⟩) h.1
    obtain ⟨L, its, sh2⟩ := TVs.its ts F st ⟨fun a ha => nw.1 a (List.mem_append_right _ ha), fun a ha => nw.2 a (List.mem_append_right _ ha)⟩ h.2
    exact ⟨i ++ L, ⟨v, vs', i, L, rfl, it, its, rfl⟩, sh.app sh2⟩
/-- the reading of a built-in's arguments -/
theorem sem_biA {qs : EL} (b : BI) {Q : VK} (h : tE c W (muL qs) (fun en => (evL C qs en).bind fun rs e1 => if rs.all itemsOk then match biD b (dsOf rs) with
      | some d => .ok (d, .own (flagOf d 1)) e1
      | none => .stuck
    else .stuck) σ H Q) : tAr c W (muL qs) (evL C qs) σ H fun vs H1 => ∃ ds L d, Its c H1 ds vs L ∧ biD b ds = some d ∧ Mk c H1 d L Q := by
  obtain ⟨en, fo, fs, F, hr⟩ := h
  refine tA_seqE F hr fun rs e1 he hx vs H1 fo1 fs1 O S F1 st ts nw => ?_
  split at hx
  · rename_i ha
    split at hx
    · rename_i d hd
      obtain ⟨L, its, sh⟩ := ts.its F1 st nw ha
      exact ⟨dsOf rs, L, d, its, hd, Mk.of hx F1 st sh⟩
    · exact hx.elim
  · exact hx.elim
end
end QQ
namespace QQ
open PySem L2

theorem tabs_keep {T : List NdefX.NTab} {H H' : Hp} (t : NdefX.TabsN T H) (e : ∀ b o, H b = some o → (∀ xs, o ≠ .lst xs) → H' b = some o) : NdefX.TabsN T H' := fun p hp => by
  obtain ⟨ps, h1, h2, h3⟩ := t p hp
  refine ⟨ps, e _ _ h1 (fun xs z => by cases z), h2, fun pos cv hc => ?_⟩
  obtain ⟨c, e1, e2⟩ := h3 pos cv hc
  exact ⟨c, e1, e _ _ e2 fun xs z => by unfold LamX.CodeO at z; cases z⟩
theorem notCons {j i : Nat} {mu : List Nat} (h : j ∉ i :: mu) : j ≠ i ∧ j ∉ mu := ⟨fun e => h (by rw [e]; exact List.mem_cons_self ..), fun z => h (List.mem_cons_of_mem _ z)⟩
section
variable {c : Cb} {en : En} {σ : L2.St} {H : Hp} {fo fs : FP}
theorem stab_write {a : Addr} {xs : List V} {x : HO} {L : List Addr} (ha : H a = some (.lst xs)) (hL : a ∉ L) : Stab H (upd H a x) L := fun b y e h => by
  by_cases hb : b = a
  · subst hb
    rw [ha] at e; cases e
    rcases h with h | h
    · cases h
    · exact absurd h hL
  · rw [upd_ne hb]; exact e
/-- the slot's own list gets new items -/
theorem FR.write (F : FR c en σ H fo fs) {i : Nat} {xs ys : List D} {n : Nat} {a : Addr} {vs ws : List V} {o o2 s2 : List Addr} (e : en[i]? = some (some (.list xs, n + 1))) (hv : σ[i]? = some (some (.ref a))) (ha : H a = some (.lst vs)) (eo : fo i = a :: o)
    (r : ROs c H ys n ws o2 s2) (nd : o2.Nodup) (na : a ∉ o2) (ns : a ∉ s2) (os : ∀ b, b ∈ o2 → b ∉ s2) (ot : ∀ b, b ∈ o2 → ∀ j, j ≠ i → b ∉ fo j ∧ b ∉ fs j) (sf : ∀ b, b ∈ s2 → ∀ j, j ≠ i → b ∉ fo j) (so : ∀ b, b ∈ o2 → Src c b) (ss : ∀ b, b ∈ s2 → SrcS c b) :
    FR c (en.set i (some (.list ys, n + 1))) σ (upd H a (.lst ws)) (updF fo i (a :: o2)) (updF fs i s2) := by
  have hi : i < en.length := by
    rcases Nat.lt_or_ge i en.length with h | h
    · exact h
    · rw [List.getElem?_eq_none h] at e; cases e
  have ai : a ∈ fo i := by rw [eo]; exact List.mem_cons_self ..
  exact {
    len := by rw [List.length_set]; exact F.len
    rel := fun j d' n' e' => by
      by_cases hj : j = i
      · subst hj
        rw [List.getElem?_set_self hi] at e'
        cases e'
        rw [updF_same, updF_same]
        refine ⟨_, hv, ?_⟩
        rw [RO]
        refine ⟨a, ws, rfl, upd_same, o2, ROs.stab ys n ws o2 s2 r (stab_write ha fun z => ?_), rfl⟩
        rcases List.mem_append.mp z with z | z
        · exact na z
        · exact ns z
      · rw [List.getElem?_set_ne (Ne.symm hj)] at e'
        rw [updF_ne hj, updF_ne hj]
        obtain ⟨v, h1, h2⟩ := F.rel j d' n' e'
        refine ⟨v, h1, RO.stab d' n' v _ _ h2 (stab_write ha fun z => ?_)⟩
        have q := F.dj i j a ai
        rcases List.mem_append.mp z with z | z
        · exact q.2 (Ne.symm hj) z
        · exact q.1 z
    emp := fun j h => by
      by_cases hj : j = i
      · subst hj; exact absurd (List.getElem?_set_self hi) (h _)
      · rw [updF_ne hj, updF_ne hj]
        exact F.emp j fun p e => h p (by rw [List.getElem?_set_ne (Ne.symm hj)]; exact e)
    nd := fun j => by
      by_cases hj : j = i
      · subst hj; rw [updF_same]; exact List.nodup_cons.mpr ⟨na, nd⟩
      · rw [updF_ne hj]; exact F.nd j
    dj := fun j k b hb => by
      by_cases hj : j = i
      · subst hj
        rw [updF_same] at hb
        rcases List.mem_cons.mp hb with hb | hb
        · subst hb
          by_cases hk : k = j
          · subst hk; rw [updF_same, updF_same]; exact ⟨ns, fun z => absurd rfl z⟩
          · rw [updF_ne hk, updF_ne hk]
            have q := F.dj j k b ai
            exact ⟨q.1, q.2⟩
        · by_cases hk : k = j
          · subst hk; rw [updF_same, updF_same]; exact ⟨os b hb, fun z => absurd rfl z⟩
          · rw [updF_ne hk, updF_ne hk]; exact ⟨(ot b hb k hk).2, fun _ => (ot b hb k hk).1⟩
      · rw [updF_ne hj] at hb
        by_cases hk : k = i
        · subst hk
          rw [updF_same, updF_same]
          refine ⟨fun z => sf b z j hj hb, fun _ z => ?_⟩
          rcases List.mem_cons.mp z with z | z
          · subst z; exact (F.dj j k b hb).2 hj ai
          · exact (ot b z j hj).1 hb
        · rw [updF_ne hk, updF_ne hk]; exact F.dj j k b hb
    so := fun j b hb => by
      by_cases hj : j = i
      · subst hj; rw [updF_same] at hb
        rcases List.mem_cons.mp hb with hb | hb
        · subst hb; exact F.so j b ai
        · exact so b hb
      · rw [updF_ne hj] at hb; exact F.so j b hb
    ss := fun j b hb => by
      by_cases hj : j = i
      · subst hj; rw [updF_same] at hb; exact ss b hb
      · rw [updF_ne hj] at hb; exact F.ss j b hb
    kp := fun b x e0 h t => by
      have hb : b ≠ a := fun z => by
        subst z
        rcases F.so i b ai with q | q
        · rw [e0] at q; cases q
        · exact h q
      rw [upd_ne hb]; exact F.kp b x e0 h t
    dm := fun b h => by
      by_cases hb : b = a
      · subst hb; rw [upd_same]; simp
      · rw [upd_ne hb]; exact F.dm b h
    iov := F.iov
    tb := tabs_keep F.tb fun b x e0 h => by
      have hb : b ≠ a := fun z => by subst z; rw [ha] at e0; cases e0; exact h _ rfl
      rw [upd_ne hb]; exact e0 }
/-- .. as a step -/
theorem Step.write {mu : List Nat} {en1 : En} {H1 : Hp} {fo1 fs1 : FP} (st : Step mu en en1 H H1 fo fs fo1 fs1) {i : Nat} {d' : D} {n : Nat} {a : Addr} {ws : List V} {o2 s2 : List Addr} (ai : a ∈ fo1 i)
    (ho : ∀ b, b ∈ o2 → b ∈ fo1 i ∨ H b = none ∨ ∃ j, j ∈ mu ∧ b ∈ fo j) (hs : ∀ b, b ∈ s2 → b ∈ fs1 i ∨ b ∈ fo1 i ∨ H b = none ∨ ∃ j, b ∈ fo j ∨ b ∈ fs j) :
    Step (i :: mu) en (en1.set i (some (d', n))) H (upd H1 a (.lst ws)) fo fs (updF fo1 i (a :: o2)) (updF fs1 i s2) where
  keep := fun b x e t k => by
    have hb : b ≠ a := fun z => by
      subst z
      rcases st.oo i b ai with z | ⟨_, z | ⟨j, hj, z⟩⟩
      · exact k i (List.mem_cons_self ..) z
      · rw [e] at z; cases z
      · exact k j (List.mem_cons_of_mem _ hj) z
    rw [upd_ne hb]; exact st.keep b x e t fun j hj => k j (List.mem_cons_of_mem _ hj)
  dom := fun b h => by
    by_cases hb : b = a
    · subst hb; rw [upd_same]; simp
    · rw [upd_ne hb]; exact st.dom b h
  oo := fun j b hb => by
    have old : b ∈ fo1 i → H b = none ∨ ∃ j, j ∈ i :: mu ∧ b ∈ fo j := fun z => by
      rcases st.oo i b z with z | ⟨_, z | ⟨j, hj, z⟩⟩
      · exact .inr ⟨i, List.mem_cons_self .., z⟩
      · exact .inl z
      · exact .inr ⟨j, List.mem_cons_of_mem _ hj, z⟩
    by_cases hj : j = i
    · subst hj
      rw [updF_same] at hb
      refine .inr ⟨List.mem_cons_self .., ?_⟩
      rcases List.mem_cons.mp hb with hb | hb
      · subst hb; exact old ai
      · rcases ho b hb with z | z | ⟨k, hk, z⟩
        · exact old z
        · exact .inl z
        · exact .inr ⟨k, List.mem_cons_of_mem _ hk, z⟩
    · rw [updF_ne hj] at hb
      exact (st.oo j b hb).imp id fun ⟨h, r⟩ => ⟨List.mem_cons_of_mem _ h, r.imp id fun ⟨k, p, q⟩ => ⟨k, List.mem_cons_of_mem _ p, q⟩⟩
  ss := fun j b hb => by
    by_cases hj : j = i
    · subst hj
      rw [updF_same] at hb
      refine .inr (.inr ⟨List.mem_cons_self .., ?_⟩)
      rcases hs b hb with z | z | z | z
      · rcases st.ss j b z with z | z | ⟨_, z⟩
        · exact .inr ⟨j, .inr z⟩
        · exact .inr ⟨j, .inl z⟩
        · exact z
      · rcases st.oo j b z with z | ⟨_, z | ⟨k, _, z⟩⟩
        · exact .inr ⟨j, .inl z⟩
        · exact .inl z
        · exact .inr ⟨k, .inl z⟩
      · exact .inl z
      · exact .inr z
    · rw [updF_ne hj] at hb
      exact (st.ss j b hb).imp id fun r => r.imp id fun ⟨h, r⟩ => ⟨List.mem_cons_of_mem _ h, r⟩
  val := fun j hj => by
    have hj := notCons hj
    rw [List.getElem?_set_ne (Ne.symm hj.1)]
    exact st.val j hj.2
  all := fun j hj b hb => by
    have hj := notCons hj
    rw [updF_ne hj.1, updF_ne hj.1]; exact st.all j hj.2 b hb
  dep := fun j hj => by
    have hj := notCons hj
    unfold depthAt
    rw [List.getElem?_set_ne (Ne.symm hj.1)]
    exact st.dep j hj.2
theorem ROs.split {n : Nat} : ∀ (k : Nat) {ds : List D} {vs : List V} {o s : List Addr}, ROs c H ds n vs o s → ∃ o1 s1 o2 s2, ROs c H (ds.take k) n (vs.take k) o1 s1 ∧ ROs c H (ds.drop k) n (vs.drop k) o2 s2 ∧ o = o1 ++ o2 ∧ s = s1 ++ s2
  | 0, ds, vs, o, s, r => ⟨[], [], o, s, by rw [List.take_zero, List.take_zero]; exact .mkNil, r, rfl, rfl⟩
  | k + 1, [], vs, o, s, r => by
    obtain ⟨rfl, rfl, rfl⟩ := r.nil'
    exact ⟨[], [], [], [], .mkNil, .mkNil, rfl, rfl⟩
  | k + 1, d :: ds, vs, o, s, r => by
    obtain ⟨v, vs', o1, s1, o2, s2, rfl, r1, r2, rfl, rfl⟩ := r.cons'
    obtain ⟨o3, s3, o4, s4, q1, q2, rfl, rfl⟩ := ROs.split k r2
    exact ⟨o1 ++ o3, s1 ++ s3, o4, s4, ROs.mkCons r1 q1, q2, by rw [List.append_assoc], by rw [List.append_assoc]⟩
theorem drop_cons {α : Type} : ∀ {xs : List α} {k : Nat} {x : α}, xs[k]? = some x → xs.drop k = x :: xs.drop (k + 1)
  | [], k, x, h => by simp at h
  | y :: xs, 0, x, h => by simp at h; rw [h]; rfl
  | y :: xs, k + 1, x, h => drop_cons (xs := xs) (k := k) (by simpa using h)
/-- one item taken out: the rest, the item -/
theorem ROs.out {n k : Nat} {ds : List D} {vs : List V} {o s : List Addr} {d : D} (r : ROs c H ds n vs o s) (hd : ds[k]? = some d) : ∃ w o1 s1 od sd o2 s2, vs[k]? = some w ∧ RO c H d n w od sd ∧ o = o1 ++ (od ++ o2) ∧ s = s1 ++ (sd ++ s2) ∧
    ROs c H (ds.take k ++ ds.drop (k + 1)) n (vs.take k ++ vs.drop (k + 1)) (o1 ++ o2) (s1 ++ s2) := by
  obtain ⟨o1, s1, o2, s2, q1, q2, rfl, rfl⟩ := r.split k
  rw [drop_cons hd] at q2
  obtain ⟨w, vs', od, sd, o3, s3, ev, r1, r2, rfl, rfl⟩ := q2.cons'
  have hw : vs[k]? = some w := by
    have : (vs.drop k)[0]? = some w := by rw [ev]; rfl
    rwa [List.getElem?_drop, Nat.add_zero] at this
  have e2 : vs' = vs.drop (k + 1) := by
    have := drop_cons hw
    rw [ev] at this
    exact (List.cons.inj this).2
  rw [e2] at r2
  exact ⟨w, o1, s1, od, sd, o3, s3, hw, r1, rfl, rfl, ROs.app _ _ _ _ _ _ _ _ _ q1 r2⟩
/-- a slot that holds a list of its own -/
theorem FR.ownList (F : FR c en σ H fo fs) {i : Nat} {xs : List D} {n : Nat} (e : en[i]? = some (some (.list xs, n + 1))) : ∃ a vs o, σ[i]? = some (some (.ref a)) ∧ H a = some (.lst vs) ∧ fo i = a :: o ∧ ROs c H xs n vs o (fs i) := by
  obtain ⟨v, hv, r⟩ := F.rel i _ _ e
  rw [RO] at r
  obtain ⟨a, vs, rfl, ha, o, rr, eo⟩ := r
  exact ⟨a, vs, o, hv, ha, eo, rr⟩
end
section
variable {X : Cx} {c : Cb} {W : WX} {C : Orc}
/-- behind a call of a list's method: what the slot holds, what came back -/
theorem mu_end {mu : List Nat} {en e1 : En} {σ : L2.St} {H H1 : Hp} {fo fs fo1 fs1 : FP} {i n : Nat} {xs ys : List D} {a : Addr} {vs ws : List V} {o o2 s2 od sd : List Addr} {d : D} {w : V} {Q : VK}
    (F : FR c e1 σ H1 fo1 fs1) (st : Step mu en e1 H H1 fo fs fo1 fs1) (e : e1[i]? = some (some (.list xs, n + 1))) (hv : σ[i]? = some (some (.ref a))) (ha : H1 a = some (.lst vs)) (eo : fo1 i = a :: o)
    (r : ROs c H1 ys n ws o2 s2) (rd : RO c H1 d n w od sd) (nd : (o2 ++ od).Nodup)
    (pos : ∀ b, b ∈ o2 ++ od → b ∈ o ∨ ((∀ j, b ∉ fo1 j ∧ b ∉ fs1 j) ∧ (H b = none ∨ ∃ j, j ∈ mu ∧ b ∈ fo j) ∧ Src c b)) (poS : ∀ b, b ∈ s2 ++ sd → b ∈ fs1 i ∨ ((∀ j, b ∉ fo1 j) ∧ (H b = none ∨ ∃ j, b ∈ fo j ∨ b ∈ fs j) ∧ SrcS c b))
    (ap : ∀ b, b ∈ o2 ++ od → (∀ j, b ∉ fo1 j) → b ∉ s2 ++ sd)
    (k : KE c σ (i :: mu) en H fo fs Q (d, .own n) (e1.set i (some (.list ys, n + 1)))) : Q w (upd H1 a (.lst ws)) := by
  have ai : a ∈ fo1 i := by rw [eo]; exact List.mem_cons_self ..
  have oi : ∀ b, b ∈ o → b ∈ fo1 i := fun b hb => by rw [eo]; exact List.mem_cons_of_mem _ hb
  have nda := F.nd i
  rw [eo] at nda
  have nao : a ∉ o := (List.nodup_cons.mp nda).1
  have na : ∀ b, b ∈ o2 ++ od → b ≠ a := fun b hb z => by
    subst z
    rcases pos b hb with q | ⟨q, _⟩
    · exact nao q
    · exact (q i).1 ai
  have ns : ∀ b, b ∈ s2 ++ sd → b ≠ a := fun b hb z => by
    subst z
    rcases poS b hb with q | ⟨q, _⟩
    · exact (F.dj i i b ai).1 q
    · exact q i ai
  have os : ∀ b, b ∈ o2 ++ od → b ∉ s2 ++ sd := fun b hb z => by
    rcases pos b hb with q | ⟨q, _⟩
    · rcases poS b z with z | ⟨z, _⟩
      · exact (F.dj i i b (oi b q)).1 z
      · exact z i (oi b q)
    · exact ap b hb (fun j => (q j).1) z
  have of : ∀ b, b ∈ o2 ++ od → ∀ j, j ≠ i → b ∉ fo1 j ∧ b ∉ fs1 j := fun b hb j hj => by
    rcases pos b hb with q | ⟨q, _⟩
    · exact ⟨(F.dj i j b (oi b q)).2 (Ne.symm hj), (F.dj i j b (oi b q)).1⟩
    · exact q j
  have sf : ∀ b, b ∈ s2 ++ sd → ∀ j, j ≠ i → b ∉ fo1 j := fun b hb j hj z => by
    rcases poS b hb with q | ⟨q, _⟩
    · exact (F.dj j i b z).1 q
    · exact q j z
  have so : ∀ b, b ∈ o2 ++ od → Src c b := fun b hb => (pos b hb).elim (fun q => F.so i b (oi b q)) fun q => q.2.2
  have ss : ∀ b, b ∈ s2 ++ sd → SrcS c b := fun b hb => (poS b hb).elim (F.ss i b) fun q => q.2.2
  have L : ∀ {b}, b ∈ o2 → b ∈ o2 ++ od := fun h => List.mem_append_left _ h
  have R : ∀ {b}, b ∈ od → b ∈ o2 ++ od := fun h => List.mem_append_right _ h
  have L' : ∀ {b}, b ∈ s2 → b ∈ s2 ++ sd := fun h => List.mem_append_left _ h
  have R' : ∀ {b}, b ∈ sd → b ∈ s2 ++ sd := fun h => List.mem_append_right _ h
  have nd' := List.nodup_append.mp nd
  have F' := F.write e hv ha eo r nd'.1 (fun z => na a (L z) rfl) (fun z => ns a (L' z) rfl) (fun b hb z => os b (L hb) (L' z)) (fun b hb => of b (L hb)) (fun b hb => sf b (L' hb)) (fun b hb => so b (L hb)) (fun b hb => ss b (L' hb))
  have back : ∀ b, b ∈ fo1 i → H b = none ∨ ∃ j, j ∈ i :: mu ∧ b ∈ fo j := fun b z => by
    rcases st.oo i b z with z | ⟨_, z | ⟨j, hj, z⟩⟩
    · exact .inr ⟨i, List.mem_cons_self .., z⟩
    · exact .inl z
    · exact .inr ⟨j, List.mem_cons_of_mem _ hj, z⟩
  have backS : ∀ b, b ∈ fs1 i → H b = none ∨ ∃ j, b ∈ fo j ∨ b ∈ fs j := fun b z => by
    rcases st.ss i b z with z | z | ⟨_, z⟩
    · exact .inr ⟨i, .inr z⟩
    · exact .inr ⟨i, .inl z⟩
    · exact z
  have st' := st.write (i := i) (d' := .list ys) (n := n + 1) (ws := ws) (o2 := o2) (s2 := s2) ai (fun b hb => by
      rcases pos b (L hb) with q | ⟨_, q, _⟩
      · exact .inl (oi b q)
      · exact .inr q) fun b hb => by
      rcases poS b (L' hb) with q | ⟨_, q, _⟩
      · exact .inl q
      · exact .inr (.inr q)
  refine k w _ _ _ od sd F' st' ⟨RO.stab d n w od sd rd (stab_write ha fun z => ?_), nd'.2.1, fun b hb z => os b (R hb) (R' z), fun b hb j => ?_, fun b hb j z => ?_, fun b hb => so b (R hb), fun b hb => ss b (R' hb)⟩ ⟨fun b hb => ?_, fun b hb => ?_⟩
  · rcases List.mem_append.mp z with z | z
    · exact na a (R z) rfl
    · exact ns a (R' z) rfl
  · by_cases hj : j = i
    · subst hj
      rw [updF_same, updF_same]
      refine ⟨fun z => ?_, fun z => os b (R hb) (L' z)⟩
      rcases List.mem_cons.mp z with z | z
      · exact na b (R hb) z
      · exact nd'.2.2 b z b hb rfl
    · rw [updF_ne hj, updF_ne hj]; exact of b (R hb) j hj
  · by_cases hj : j = i
    · subst hj
      rw [updF_same] at z
      rcases List.mem_cons.mp z with z | z
      · exact ns b (R' hb) z
      · exact os b (L z) (R' hb)
    · rw [updF_ne hj] at z; exact sf b (R' hb) j hj z
  · rcases pos b (R hb) with q | ⟨_, q, _⟩
    · exact back b (oi b q)
    · exact q.imp id fun ⟨j, h, z⟩ => ⟨j, List.mem_cons_of_mem _ h, z⟩
  · rcases poS b (R' hb) with q | ⟨_, q, _⟩
    · exact backS b q
    · exact q
end
/-! ### the side conditions of calls -/
def noStar : Expr → Bool
  | .Starred _ _ => false
  | _ => true
def noStars : List Expr → Bool
  | [] => true
  | e :: es => noStar e && noStars es
theorem star_cons {e : Expr} (h : noStar e = true) (es : List Expr) (env : Env) : starEach (e :: es) env = (false, eval e env) :: starEach es env := by
  cases e <;> first | rfl | cases h
theorem star_all : ∀ {es : List Expr} (h : noStars es = true) (pos : Pos) (env : Env), (backTo pos (starEach es env)).all (fun x => !x.1) = true
  | [], _, _, _ => rfl
  | e :: es, h, pos, env => by
    have h : (noStar e && noStars es) = true := h
    rw [Bool.and_eq_true] at h
    rw [star_cons h.1]
    have ih := star_all h.2 pos env
    show (!false && (backTo pos (starEach es env)).all (fun x => !x.1)) = true
    rw [ih]; rfl
theorem star_any {es : List Expr} (h : noStars es = true) (pos : Pos) (env : Env) : (backTo pos (starEach es env)).any (·.1) = false := by
  have q := star_all h pos env
  rw [List.all_eq_true] at q
  rw [List.any_eq_false]
  intro x hx z
  have := q x hx
  rw [z] at this; cases this
def plainBase : Expr → Bool
  | .Call _ [] _ _ => false
  | _ => true
theorem base_of {e : Expr} (h : plainBase e = true) (f : Str) (env : Env) (w : Sem Value) : attributeBase e f env w = w := by
  cases e with
  | Call func args ks pos =>
    cases args with
    | nil => cases h
    | cons a as => cases func <;> rfl
  | _ => rfl
def plainIx : Expr → Bool
  | .Slice _ _ _ _ => false
  | _ => true
theorem ix_of {e : Expr} (h : plainIx e = true) : PlainIx e := by
  intro o i
  cases e <;> first | rfl | cases h
section
variable {X : Cx} {c : Cb} {W : WX} {C : Orc}
theorem few_of {es : List Expr} (h : noStars es = true) (hl : es.length < 30) (pos : Pos) (env : Env) : ((backTo pos (starEach es env)).all (fun x => !x.1) && (backToKw pos (keywordEach [] env)).all (fun x => x.1.isSome)
      && decide (es.length + ([] : List Keyword).length + (if ([] : List Keyword).isEmpty then 0 else 1) < 30)) = true := by
  rw [star_all h]
  show (true && true && decide (es.length + 0 + 0 < 30)) = true
  simp [hl]
theorem isLst_of {en : En} {i : Nat} (h : isLst en i = true) : ∃ xs n, en[i]? = some (some (.list xs, n)) := by
  unfold isLst at h
  split at h
  · rename_i xs n e; exact ⟨_, _, e⟩
  · cases h
/-- x.m(..): the receiver, the arguments, then the change -/
theorem sem_muA {m : MU} {i : Nat} {qs : EL} {σ : L2.St} {H : Hp} {Q : VK} {r : V → List V → Hp → VK → Prop} (hr : tE c W (muE (.mu m i qs)) (ev C (.mu m i qs)) σ H Q)
    (k : ∀ {en fo fs H1 fo1 fs1 e1} (rs : List (D × Kd)) vs O S n xs d' w' a ws o, FR c e1 σ H1 fo1 fs1 → Step (muL qs) en e1 H H1 fo fs fo1 fs1 → TVs c e1 σ H1 fo1 fs1 rs vs O S → New (muL qs) H fo fs O S → rs.length = elLen qs → rs.all (muIn m n) = true →
      e1[i]? = some (some (.list xs, n + 1)) → σ[i]? = some (some (.ref a)) → H1 a = some (.lst ws) → fo1 i = a :: o → ROs c H1 xs n ws o (fs1 i) → muD m (.list xs) (dsOf rs) = some (w', d') →
      KE c σ (i :: muL qs) en H fo fs Q (w', .own n) (e1.set i (some (d', n + 1))) → r (.ref a) vs H1 Q) :
    tVar i σ H fun x H1 => tyV X.K "list" x H1 ∧ tAr c W (muL qs) (evL C qs) σ H1 fun vs H2 => r x vs H2 Q := by
  obtain ⟨en, fo, fs, F, hr⟩ := hr
  have hr : Res c W σ (KE c σ (i :: muL qs) en H fo fs Q) (if isLst en i && !(muL qs).contains i then (evL C qs en).bind fun rs e1 => muR m i rs e1 else .stuck) := hr
  split at hr
  · rename_i hz
    rw [Bool.and_eq_true] at hz
    have hmu : i ∉ muL qs := by simpa using hz.2
    obtain ⟨xs0, n0, e0⟩ := isLst_of hz.1
    obtain ⟨v, hv, r0⟩ := F.rel i _ _ e0
    obtain ⟨a, vs0, ev, ha, _⟩ := r0.list_sq
    subst ev
    refine ⟨.ref a, hv, .inl ⟨rfl, _, SqL.of ha⟩, ?_⟩
    refine tA_seqE F hr fun rs e1 he hx vs H1 fo1 fs1 O S F1 st ts nw => ?_
    unfold muR at hx
    split at hx
    · rename_i d n e1'
      split at hx
      · rename_i hin
        split at hx
        · rename_i w' d' hd
          -- the slot's value is the one that stood there
          have hd0 : d = .list xs0 := by
            have q := st.val i hmu
            rw [e1', e0] at q
            exact Option.some.inj q
          subst hd0
          obtain ⟨a', ws, o, hv', ha', eo, rr⟩ := F1.ownList e1'
          rw [hv] at hv'
          cases hv'
          exact k rs vs O S n _ d' w' a ws o F1 st ts nw (evL_len qs en rs e1 he) hin e1' hv ha' eo rr hd hx
        · exact hx.elim
      · exact hx.elim
    · exact hx.elim
  · exact hr.elim
theorem dsOf_one {rs : List (D × Kd)} (h : rs.length = 1) : ∃ r, rs = [r] := by
  cases rs with
  | nil => cases h
  | cons r rs => cases rs with
    | nil => exact ⟨r, rfl⟩
    | cons _ _ => cases h
theorem pos_old {fo fo1 fs1 : FP} {H : Hp} {mu : List Nat} {o o2 O : List Addr} (h2 : ∀ b, b ∈ o2 → b ∈ o) (of : ∀ b, b ∈ O → ∀ j, b ∉ fo1 j ∧ b ∉ fs1 j) (nw : ∀ b, b ∈ O → H b = none ∨ ∃ j, j ∈ mu ∧ b ∈ fo j) (so : ∀ b, b ∈ O → Src c b) :
    ∀ b, b ∈ o2 ++ O → b ∈ o ∨ ((∀ j, b ∉ fo1 j ∧ b ∉ fs1 j) ∧ (H b = none ∨ ∃ j, j ∈ mu ∧ b ∈ fo j) ∧ Src c b) := fun b hb => (List.mem_append.mp hb).imp (h2 b) fun h => ⟨of b h, nw b h, so b h⟩
theorem sem_append (G : Gd X c W) {i : Nat} {x : Str} {a : Expr} {qa : E} {p apos cpos : Pos} (ho : PE X (.Name x p) (tVar i)) (ha : PAq X c W C [a] (.cons qa .nil)) (hs : noStar a = true) (hline : (apos.endLine == cpos.line) = true) :
    PEq X c W C (.Call (.Attribute (.Name x p) "append" apos) [a] [] cpos) (.mu .append i (.cons qa .nil)) := by
  have hs1 : noStars [a] = true := by show (noStar a && true) = true; rw [hs]; rfl
  refine (pe_bm PySem.F.plainAttrs_list PySem.F.slot_list_append PySem.F.type_list_append mt_append ho ha rfl (few_of hs1 (show 1 < 30 by decide) _ _) hline (star_cons hs _ _) rfl).imp fun σ H Q h => ?_
  refine sem_muA (r := fun x xs H1 Q => rAppend x xs H1 Q) h fun rs vs O S n xs d' w' p ws o F1 st ts nw hl hin e1 hv hp eo rr hd k => ?_
  obtain ⟨r, rfl⟩ := dsOf_one hl
  have hd : (if xs.length < LIM then some (PyData.none, PyData.list (xs ++ [r.1])) else none) = some (w', d') := hd
  split at hd
  · rename_i hz
    cases hd
    have hk : keepItem (n + 1) r = true := by
      have : (muIn .append n r && true) = true := hin
      have h2 : ((keepItem (n + 1) r && (keepK r).isSome) && true) = true := this
      simp only [Bool.and_eq_true] at h2
      exact h2.1.1
    obtain ⟨O', S', r1, n2, nd, os, of, sf, so, ss, _, _⟩ := ts.kept (k := n) nw (by show (depOk n r && true) = true; rw [depOk_of_item hk]; rfl)
    obtain ⟨v, rfl⟩ : ∃ v, vs = [v] := by
      have := r1.len'
      cases vs with
      | nil => cases this
      | cons v vs => cases vs with
        | nil => exact ⟨v, rfl⟩
        | cons _ _ => cases this
    refine ⟨p, ws, v, rfl, rfl, hp, by rw [lim, ← rr.len']; exact hz, ?_⟩
    have nda := F1.nd i
    rw [eo] at nda
    refine mu_end F1 st e1 hv hp eo (ROs.app _ _ _ _ _ _ _ _ _ rr r1) (d := .none) (od := []) (sd := []) (by rw [RO]; exact ⟨rfl, rfl, rfl⟩) ?_ ?_ ?_ ?_ k
    · rw [List.append_nil]
      exact List.nodup_append.mpr ⟨(List.nodup_cons.mp nda).2, nd, fun b hb b' hb' e => by
        subst e
        exact (of b hb' i).1 (by rw [eo]; exact List.mem_cons_of_mem _ hb)⟩
    · rw [List.append_nil]
      exact pos_old (fun _ h => h) of n2.1 so
    · rw [List.append_nil]
      exact fun b hb => (List.mem_append.mp hb).imp id fun h => ⟨sf b h, n2.2 b h, ss b h⟩
    · rw [List.append_nil, List.append_nil]
      intro b hb hn z
      rcases List.mem_append.mp hb with hb | hb
      · exact hn i (by rw [eo]; exact List.mem_cons_of_mem _ hb)
      · rcases List.mem_append.mp z with z | z
        · exact (of b hb i).2 z
        · exact os b hb z
  · cases hd
theorem erase_eq {α : Type} (xs : List α) (k : Nat) : xs.eraseIdx k = xs.take k ++ xs.drop (k + 1) := List.eraseIdx_eq_take_drop_succ xs k
theorem drop_last {α : Type} (xs : List α) : xs.dropLast = xs.take (xs.length - 1) ++ xs.drop (xs.length - 1 + 1) := by
  rw [List.dropLast_eq_take]
  cases xs with
  | nil => rfl
  | cons x xs => rw [List.drop_eq_nil_of_le (by simp), List.append_nil]
/-- an item taken out of the list -/
theorem out_end {mu : List Nat} {en e1 : En} {σ : L2.St} {H H1 : Hp} {fo fs fo1 fs1 : FP} {i n k : Nat} {xs : List D} {a : Addr} {vs : List V} {o : List Addr} {d : D} {Q : VK}
    (F : FR c e1 σ H1 fo1 fs1) (st : Step mu en e1 H H1 fo fs fo1 fs1) (e : e1[i]? = some (some (.list xs, n + 1))) (hv : σ[i]? = some (some (.ref a))) (ha : H1 a = some (.lst vs)) (eo : fo1 i = a :: o) (rr : ROs c H1 xs n vs o (fs1 i)) (hd : xs[k]? = some d)
    (kk : KE c σ (i :: mu) en H fo fs Q (d, .own n) (e1.set i (some (.list (xs.take k ++ xs.drop (k + 1)), n + 1)))) : ∃ w, vs[k]? = some w ∧ Q w (upd H1 a (.lst (vs.take k ++ vs.drop (k + 1)))) := by
  obtain ⟨w, o1, s1, od, sd, o2, s2, hw, r1, eo', es, r2⟩ := rr.out hd
  have nda := F.nd i
  rw [eo] at nda
  have ndo := (List.nodup_cons.mp nda).2
  have perm : List.Perm o ((o1 ++ o2) ++ od) := by
    rw [eo', List.append_assoc]
    exact List.Perm.append_left _ List.perm_append_comm
  refine ⟨w, hw, mu_end F st e hv ha eo r2 r1 (perm.nodup_iff.mp ndo) (fun b hb => .inl (perm.mem_iff.mpr hb)) (fun b hb => .inl ?_) (fun b hb hn => absurd (by rw [eo]; exact List.mem_cons_of_mem _ (perm.mem_iff.mpr hb)) (hn i)) kk⟩
  rw [es]
  simp only [List.mem_append] at hb ⊢
  rcases hb with (hb | hb) | hb
  · exact .inl hb
  · exact .inr (.inr hb)
  · exact .inr (.inl hb)
theorem tA_nil {mu : List Nat} {σ : L2.St} {H : Hp} {QA : List V → Hp → Prop} (h : tAr c W mu (evL C .nil) σ H QA) : QA [] H := by
  obtain ⟨en, fo, fs, F, hr⟩ := h
  exact hr [] H fo fs [] [] F .refl ⟨rfl, rfl, rfl⟩ .nil
theorem sem_pop (G : Gd X c W) {i : Nat} {x : Str} {p apos cpos : Pos} (ho : PE X (.Name x p) (tVar i)) (hline : (apos.endLine == cpos.line) = true) :
    PEq X c W C (.Call (.Attribute (.Name x p) "pop" apos) [] [] cpos) (.mu .pop i .nil) := by
  refine (pe_bm0 PySem.F.plainAttrs_list PySem.F.slot_list_pop PySem.F.type_list_pop mt_pop ho rfl hline).imp fun σ H Q h => ?_
  obtain ⟨v, hv, ty, q⟩ := sem_muA (X := X) (r := rPop) h fun rs vs O S n xs d' w' p ws o F1 st ts nw hl hin e1 hv hp eo rr hd k => by
    have er : rs = [] := List.length_eq_zero_iff.mp hl
    subst er
    obtain ⟨evs, _, _⟩ := ts
    subst evs
    have hd : (xs[xs.length - 1]?).map (fun d => (d, PyData.list xs.dropLast)) = some (w', d') := hd
    cases hx : xs[xs.length - 1]? with
    | none => rw [hx] at hd; cases hd
    | some d =>
      rw [hx] at hd
      cases hd
      rw [drop_last xs] at k
      obtain ⟨w, h1, h2⟩ := out_end F1 st e1 hv hp eo rr hx k
      rw [rr.len'] at h1 h2
      exact ⟨p, ws, w, rfl, rfl, hp, h1, by rw [drop_last ws]; exact h2⟩
  exact ⟨v, hv, ty, tA_nil q⟩
theorem one_val {en : En} {σ : L2.St} {H : Hp} {fo fs : FP} {r : D × Kd} {vs : List V} {O S : List Addr} (ts : TVs c en σ H fo fs [r] vs O S) : ∃ v o s, vs = [v] ∧ TV c en σ H fo fs r v o s := by
  obtain ⟨v, vs', o, s, O', S', e, t, ⟨e2, _, _⟩, _⟩ := ts
  subst e e2
  exact ⟨v, o, s, rfl, t⟩
theorem sem_popAt (G : Gd X c W) {i : Nat} {x : Str} {a : Expr} {qa : E} {p apos cpos : Pos} (ho : PE X (.Name x p) (tVar i)) (ha : PAq X c W C [a] (.cons qa .nil)) (hs : noStar a = true) (hline : (apos.endLine == cpos.line) = true) :
    PEq X c W C (.Call (.Attribute (.Name x p) "pop" apos) [a] [] cpos) (.mu .popAt i (.cons qa .nil)) := by
  have hs1 : noStars [a] = true := by show (noStar a && true) = true; rw [hs]; rfl
  refine (pe_bm PySem.F.plainAttrs_list PySem.F.slot_list_pop PySem.F.type_list_pop mt_popAt ho ha rfl (few_of hs1 (show 1 < 30 by decide) _ _) hline (star_cons hs _ _) rfl).imp fun σ H Q h => ?_
  refine sem_muA (r := rPopAt) h fun rs vs O S n xs d' w' p ws o F1 st ts nw hl hin e1 hv hp eo rr hd k => ?_
  obtain ⟨r, rfl⟩ := dsOf_one hl
  obtain ⟨v, o1, s1, rfl, t⟩ := one_val ts
  obtain ⟨d, kd⟩ := r
  cases d with
  | int j =>
    have hd : (if decide (0 ≤ j) && decide (j < 2 ^ 62) then (xs[j.toNat]?).map fun d => (d, PyData.list (xs.eraseIdx j.toNat)) else none) = some (w', d') := hd
    split at hd
    · rename_i hz
      simp only [Bool.and_eq_true, decide_eq_true_eq] at hz
      cases hx : xs[j.toNat]? with
      | none => rw [hx] at hd; cases hd
      | some d =>
        rw [hx] at hd
        cases hd
        rw [erase_eq xs] at k
        obtain ⟨w, h1, h2⟩ := out_end F1 st e1 hv hp eo rr hx k
        have hlt : j.toNat < ws.length := (List.getElem?_eq_some_iff.mp h1).1
        exact ⟨p, ws, j, j.toNat, w, rfl, by rw [t.intV rfl], hp, by omega, by omega, seqIndex_of hz.1 (by omega), h1, by rw [erase_eq ws]; exact h2⟩
    · cases hd
  | none => cases hd
  | bool _ => cases hd
  | str _ => cases hd
  | list _ => cases hd
  | tuple _ => cases hd
  | dict _ => cases hd
theorem sem_extend (G : Gd X c W) {i : Nat} {x : Str} {a : Expr} {qa : E} {p apos cpos : Pos} (ho : PE X (.Name x p) (tVar i)) (ha : PAq X c W C [a] (.cons qa .nil)) (hs : noStar a = true) (hline : (apos.endLine == cpos.line) = true) :
    PEq X c W C (.Call (.Attribute (.Name x p) "extend" apos) [a] [] cpos) (.mu .extend i (.cons qa .nil)) := by
  have hs1 : noStars [a] = true := by show (noStar a && true) = true; rw [hs]; rfl
  refine (pe_bm PySem.F.plainAttrs_list PySem.F.slot_list_extend PySem.F.type_list_extend mt_extend ho ha rfl (few_of hs1 (show 1 < 30 by decide) _ _) hline (star_cons hs _ _) rfl).imp fun σ H Q h => ?_
  refine sem_muA (r := rExtend) h fun {en fo fs H1 fo1 fs1 e1'} rs vs O S n xs d' w' p ws o F1 st ts nw hl hin e1 hv hp eo rr hd k => ?_
  obtain ⟨r, rfl⟩ := dsOf_one hl
  obtain ⟨v, vs', o1, s1, O', S', e, t, ⟨e2, e3, e4⟩, eO, eS, _, _⟩ := ts
  subst e e2 e3 e4 eO eS
  have nw1 : New (muL (.cons qa .nil)) H fo fs o1 s1 := by rw [List.append_nil, List.append_nil] at nw; exact nw
  obtain ⟨d, kd⟩ := r
  cases d with
  | list ys =>
    have hd : (if xs.length + ys.length ≤ LIM then some (PyData.none, PyData.list (xs ++ ys)) else none) = some (w', d') := hd
    split at hd
    · rename_i hz
      cases hd
      have hin : (((n == 0 && itemsOk (.list ys, kd)) || lfs ys) && true) = true := hin
      rw [Bool.and_true, Bool.or_eq_true] at hin
      -- the items of the argument
      obtain ⟨q, zs, S', ev, hq, r1, sf, ss, nS⟩ : ∃ q zs S', v = .ref q ∧ H1 q = some (.lst zs) ∧ ROs c H1 ys n zs [] S' ∧ (∀ b, b ∈ S' → ∀ j, b ∉ fo1 j) ∧ (∀ b, b ∈ S' → SrcS c b) ∧ ∀ b, b ∈ S' → H b = none ∨ ∃ j, b ∈ fo j ∨ b ∈ fs j := by
        rcases hin with hin | hin
        · rw [Bool.and_eq_true] at hin
          have hn : n = 0 := by simpa using hin.1
          subst hn
          obtain ⟨L, it, sh⟩ := t.shared F1 st nw1 hin.2
          obtain ⟨q, zs, ev, hq, r1⟩ := it.list
          exact ⟨q, zs, L, ev, hq, r1, fun b hb => (sh b hb).1, fun b hb => (sh b hb).2.1, fun b hb => (sh b hb).2.2⟩
        · obtain ⟨s0, r0⟩ := t.read
          obtain ⟨q, zs, ev, hq, o', s', r1, _, _⟩ := r0.list_sq
          obtain ⟨_, _, r2⟩ := ROs.lf ys _ n zs o' s' hin r1
          exact ⟨q, zs, [], ev, hq, r2, by simp, by simp, by simp⟩
      refine ⟨p, q, ws, zs, rfl, by rw [ev], hp, hq, by rw [lim, ← rr.len', ← r1.len']; exact hz, ?_⟩
      have nda := F1.nd i
      rw [eo] at nda
      refine mu_end F1 st e1 hv hp eo (ROs.app _ _ _ _ _ _ _ _ _ rr r1) (d := .none) (od := []) (sd := []) (by rw [RO]; exact ⟨rfl, rfl, rfl⟩) ?_ ?_ ?_ ?_ k
      · rw [List.append_nil, List.append_nil]
        exact (List.nodup_cons.mp nda).2
      · rw [List.append_nil, List.append_nil]
        exact fun b hb => .inl hb
      · rw [List.append_nil]
        exact fun b hb => (List.mem_append.mp hb).imp id fun h => ⟨sf b h, nS b h, ss b h⟩
      · rw [List.append_nil, List.append_nil]
        intro b hb hn
        exact absurd (by rw [eo]; exact List.mem_cons_of_mem _ hb) (hn i)
    · cases hd
  | none => cases hd
  | bool _ => cases hd
  | str _ => cases hd
  | int _ => cases hd
  | tuple _ => cases hd
  | dict _ => cases hd
end
end QQ
namespace QQ
open PySem L2

def biN : BI → Str
  | .len => "len" | .int => "int" | .abs => "abs" | .max2 => "max" | .min2 => "min" | .maxl => "max" | .minl => "min" | .sum => "sum" | .any => "any" | .all => "all"
  | .tuple => "tuple" | .list => "list" | .sorted => "sorted" | .divmod => "divmod" | .str => "str" | .isi _ => "isinstance"
theorem bi_boot (b : BI) : bootBuiltins (biN b) = some (biV b) := by cases b <;> first | rfl | decide +kernel
theorem bi_n1 (b : BI) : biN b ≠ "__name__" := by
  cases b with
  | isi t => show ("isinstance" : Str) ≠ "__name__"; decide
  | _ => decide
theorem bi_n2 (b : BI) : (biN b == ("__debug__" : Str)) = false := by
  cases b with
  | isi t => show (("isinstance" : Str) == ("__debug__" : Str)) = false; decide
  | _ => decide
theorem ty_n1 : ∀ t, t ∈ ["int", "bool", "str", "list", "tuple", "dict"] → bootBuiltins (Str.ofString t) = some (.type t) ∧ Str.ofString t ≠ "__name__" ∧ (Str.ofString t == ("__debug__" : Str)) = false := by
  intro t ht
  simp only [List.mem_cons, List.not_mem_nil, or_false] at ht
  rcases ht with h | h | h | h | h | h <;> subst h <;> exact ⟨by first | rfl | decide +kernel, by decide, by decide⟩
def isIsi : BI → Bool
  | .isi _ => true
  | _ => false
theorem rBi_of {c : Cb} {b : BI} (h : isIsi b = false) {vs : List V} {H : Hp} {Q : VK} (q : ∃ ds L d, Its c H ds vs L ∧ biD b ds = some d ∧ Mk c H d L Q) : rBi c b vs H Q := by
  cases b <;> first | exact q | cases h
section
variable {X : Cx} {c : Cb} {W : WX} {C : Orc}
theorem sem_bi (G : Gd X c W) {b : BI} {a : Expr} {as : List Expr} {qs : EL} {p pos : Pos} (hb : isIsi b = false) (hg : Gl X (biN b)) (hm : X.mg (biN b) = none) (ha : PAq X c W C (a :: as) qs) (hs : noStars (a :: as) = true) :
    PEq X c W C (.Call (.Name (biN b) p) (a :: as) [] pos) (.bi b qs) := by
  have hs' : (noStar a && noStars as) = true := hs
  rw [Bool.and_eq_true] at hs'
  have hc := call_bi G.hK G.hu G.hc b
  have hv := bi_boot b
  have key : PE X (.Call (.Name (biN b) p) (a :: as) [] pos) (tCB (rBi c b) (tAr c W (muL qs) (evL C qs))) := by
    generalize hbv : biV b = bv at hc hv
    have : (∃ id, bv = .builtin id) ∨ ∃ T, bv = .type T := by
      rw [← hbv]; cases b <;> first | exact .inl ⟨_, rfl⟩ | exact .inr ⟨_, rfl⟩
    rcases this with ⟨id, rfl⟩ | ⟨T, rfl⟩
    · exact pe_callB hc hg hm hv ha (bi_n1 b) (bi_n2 b) (star_cons hs'.1 _ _) (star_any hs'.2 _ _)
    · exact pe_callTy hc hg hm hv ha (bi_n1 b) (bi_n2 b) (star_cons hs'.1 _ _) (star_any hs'.2 _ _)
  refine key.imp fun σ H Q h => ?_
  have h' := sem_biA (σ := σ) (H := H) b h
  obtain ⟨en, fo, fs, F, hr⟩ := h'
  exact ⟨en, fo, fs, F, hr.imp fun rs e k vs H' fo' fs' O S F' st ts nw => rBi_of hb (k vs H' fo' fs' O S F' st ts nw)⟩
theorem sem_isi (G : Gd X c W) {t : String} (ht : t ∈ ["int", "bool", "str", "list", "tuple", "dict"]) {a : Expr} {qa : E} {p p2 pos : Pos} (hg : Gl X "isinstance") (hm : X.mg "isinstance" = none) (hg2 : Gl X (Str.ofString t)) (hm2 : X.mg (Str.ofString t) = none) (ha : PEq X c W C a qa) (hs : noStar a = true) :
    PEq X c W C (.Call (.Name "isinstance" p) [a, .Name (Str.ofString t) p2] [] pos) (.bi (.isi t) (.cons qa .nil)) := by
  obtain ⟨hv2, hn, hd⟩ := ty_n1 t ht
  have hb : PE X (.Name (Str.ofString t) p2) (tC (.ty t)) := pe_bltn hg2 hm2 hv2 rfl hn hd
  refine (pe_callB (call_bi G.hK G.hu G.hc (.isi t)) hg hm (bi_boot (.isi t)) (pa_cons ha (pa_cons hb pa_nil (star_cons rfl _ _)) (star_cons hs _ _)) (bi_n1 (.isi t)) (bi_n2 (.isi t)) (star_cons hs _ _) (star_any rfl _ _)).imp fun σ H Q h => ?_
  obtain ⟨en, fo, fs, F, hr⟩ := h
  have hr : Res c W σ (KE c σ (muE qa ++ []) en H fo fs Q) (((ev C qa en).bind fun r e1 => (Out.ok [] e1).bind fun rs e2 => if pend r (muL .nil) then .ok (r :: rs) e2 else .stuck).bind fun rs e1 => if rs.all itemsOk then match biD (.isi t) (dsOf rs) with
      | some d => .ok (d, .own (flagOf d 1)) e1
      | none => .stuck
    else .stuck) := hr
  have hr2 : Res c W σ (KE c σ (muE qa ++ []) en H fo fs Q) ((ev C qa en).bind fun r e1 => if pend r (muL .nil) && itemsOk r then match isiD t [r.1] with
      | some d => .ok (d, .own (flagOf d 1)) e1
      | none => .stuck
    else .stuck) := by
    cases hq : ev C qa en with
    | stuck => rw [hq] at hr; exact hr
    | exc x e1 => rw [hq] at hr; exact hr
    | ok r e1 =>
      rw [hq] at hr
      rw [Out.bind_ok] at hr ⊢
      rw [Out.bind_ok] at hr
      cases hp : pend r (muL .nil) with
      | false => rw [hp] at hr; exact hr.elim
      | true =>
        rw [hp] at hr
        rw [if_pos rfl, Out.bind_ok] at hr
        have e1 : ([r].all itemsOk) = (true && itemsOk r) := by simp
        rw [e1] at hr
        exact hr
  refine tE_seq F hr2 fun r e1 hx v H1 fo1 fs1 o s F1 st tx nx => ?_
  have st' : Step (muE qa ++ []) en e1 H H1 fo fs fo1 fs1 := st.mono inL
  split at hx
  · rename_i hz
    rw [Bool.and_eq_true] at hz
    split at hx
    · rename_i d hd
      obtain ⟨i, it, sh⟩ := tx.shared F1 st' nx hz.2
      exact ⟨[r.1], [v], i, d, rfl, ⟨v, [], i, [], rfl, it, ⟨rfl, rfl⟩, by rw [List.append_nil]⟩, hd, Mk.of hx F1 st' sh⟩
    · exact hx.elim
  · exact hx.elim
/-! ranges -/
theorem rg1 (j : Int) : rgV 0 j = ((List.range j.toNat).map fun (k : Nat) => (k : Int)).map V.int := by
  unfold rgV; rw [List.map_map, Int.sub_zero]; apply List.map_congr_left; intro k _; simp
theorem rg2 (i j : Int) : rgV i j = ((List.range (j - i).toNat).map fun (k : Nat) => i + (k : Int)).map V.int := by
  unfold rgV; rw [List.map_map]; rfl
/-- the ends of a range -/
def rgArg : List D → Option (Int × Int)
  | [.int j] => some (0, j)
  | [.int i, .int j] => some (i, j)
  | _ => none
theorem rangeD_of {ds : List D} {xs : List D} (h : rangeD ds = some xs) : ∃ (i j : Int) (ns : List Int), rgArg ds = some (i, j) ∧ xs = ns.map PyData.int ∧ rgV i j = ns.map V.int ∧ RgOk i j := by
  unfold rangeD at h
  split at h
  · rename_i j
    split at h
    · rename_i hz
      simp only [Bool.and_eq_true, decide_eq_true_eq] at hz
      obtain ⟨⟨h1, h2⟩, h3⟩ := hz
      cases h
      refine ⟨0, j, _, rfl, ?_, rg1 j, by decide, by decide, h1, h2, by rw [Int.sub_zero]; exact h3⟩
      rw [List.map_map]; rfl
    · cases h
  · rename_i i j
    split at h
    · rename_i hz
      simp only [Bool.and_eq_true, decide_eq_true_eq] at hz
      obtain ⟨⟨⟨⟨h1, h2⟩, h3⟩, h4⟩, h5⟩ := hz
      cases h
      refine ⟨i, j, _, rfl, ?_, rg2 i j, h1, h2, h3, h4, h5⟩
      rw [List.map_map]; rfl
    · cases h
  · cases h
/-- a range's ends are asked -/
theorem sem_rg (G : Gd X c W) {as : List Expr} {qs : EL} (hg : Gl X "range") (hm : X.mg "range" = none) (ha : PAq X c W C as qs) (hs : noStars as = true) {p pos : Pos} (hl : as.length = 1 ∨ as.length = 2) :
    PRg X (.Call (.Name "range" p) as [] pos) (fun σ H Q => tAr c W (muL qs) (evL C qs) σ H fun vs H1 => ∃ ds L i j, Its c H1 ds vs L ∧ rgArg ds = some (i, j) ∧ Q i j H1) := by
  intro pins s σ H Q I h
  have key : ∀ (us : List Value) (s1 : Shared), AP X pins σ (fun vs H1 => ∃ ds L i j, Its c H1 ds vs L ∧ rgArg ds = some (i, j) ∧ Q i j H1) us s1 →
      wpAny (model X.prog X.w) X.A (call (.type "range") us) (fun x s' => ∃ r a b t u v H', x = .ref r ∧ IsRange s'.heap r a b 1 t u v ∧ Inv X pins σ H' s' ∧ Q a b H') X.xe s1 := by
    rintro us s1 ⟨vs, H1, I1, rv, ds, L, i, j, its, e, q⟩
    unfold rgArg at e
    split at e
    · cases e
      obtain ⟨v, ev, it⟩ := its.one
      subst ev
      rw [it.int] at rv
      obtain ⟨u, eu, t, et⟩ := vals1 rv
      subst eu et
      exact call_range_1 ⟨_, 0, _, _, _, _, H1, rfl, IsRange.new _ _ _ _ _ _ _, I1.kept fun b u e => Heap.get?_push_of_some _ e, q⟩
    · cases e
      obtain ⟨v, w, _, _, ev, it, it2⟩ := its.two
      subst ev
      rw [it.int, it2.int] at rv
      obtain ⟨u, u2, eu, ⟨t, et⟩, ⟨t2, et2⟩⟩ := rv.two
      subst eu et et2
      exact call_range_2 ⟨_, _, _, _, _, _, H1, rfl, IsRange.new _ _ _ _ _ _ _, I1.kept fun b u e => Heap.get?_push_of_some _ e, q⟩
    · cases e
  cases as with
  | nil => rcases hl with h | h <;> cases h
  | cons a as =>
    have hs' : (noStar a && noStars as) = true := hs
    rw [Bool.and_eq_true] at hs'
    exact PyProof.Rows.Call_ (ld_blt I hg hm PyProof.Rows.boot_range (PyProof.Rows.callWith_type1 (thn (ha.run pos pins s σ H _ I h) key) (star_cons hs'.1 _ _) (star_any hs'.2 _ _)))
/-- a range's ends, of the evaluator's values -/
theorem sem_rgA {qs : EL} {σ : L2.St} {H : Hp} {Q : VK} {tp : Bool} (h : tE c W (muL qs) (fun en => (evL C qs en).bind fun rs e1 => match rangeD (dsOf rs) with
      | some xs => if tp then .ok (.tuple xs, .own 0) e1 else .ok (.list xs, .own 1) e1
      | none => .stuck) σ H Q) : tAr c W (muL qs) (evL C qs) σ H fun vs H1 => ∃ ds L i j, Its c H1 ds vs L ∧ rgArg ds = some (i, j) ∧ RgOk i j ∧ if tp then NewT H1 (rgV i j) Q else ∀ q, H1 q = none → Q (.ref q) (upd H1 q (.lst (rgV i j))) := by
  obtain ⟨en, fo, fs, F, hr⟩ := h
  refine tA_seqE F hr fun rs e1 he hx vs H1 fo1 fs1 O S F1 st ts nw => ?_
  split at hx
  · rename_i xs hd
    obtain ⟨i, j, ns, h1, h2, h3, h4⟩ := rangeD_of hd
    have hi : (rs.all itemsOk) = true := by
      rw [List.all_eq_true]
      intro r hr'
      have : ∃ k, r.1 = .int k := by
        unfold rgArg at h1
        have hm : r.1 ∈ dsOf rs := List.mem_map.mpr ⟨r, hr', rfl⟩
        split at h1
        · rename_i e; rw [e] at hm; exact ⟨_, List.mem_singleton.mp hm⟩
        · rename_i e; rw [e] at hm
          rcases List.mem_cons.mp hm with e | e
          · exact ⟨_, e⟩
          · exact ⟨_, List.mem_singleton.mp e⟩
        · cases h1
      obtain ⟨k, hk⟩ := this
      unfold itemsOk
      cases hkd : r.2 with
      | own _ => rfl
      | root _ _ _ => simp [hk, lf]
    obtain ⟨L, its, sh⟩ := ts.its F1 st nw hi
    refine ⟨dsOf rs, L, i, j, its, h1, h4, ?_⟩
    cases tp with
    | true =>
      rw [if_pos rfl] at hx ⊢
      have m := Mk.of (L := []) (d := .tuple xs) hx F1 st Sh.nil
      rw [h2] at m
      rw [h3]
      exact m.tup (ROs.intsMk ns 0) (by simp)
    | false =>
      rw [if_neg Bool.false_ne_true] at hx ⊢
      have m := Mk.of (L := []) (d := .list xs) hx F1 st Sh.nil
      rw [h2] at m
      rw [h3]
      exact m.list (ROs.intsMk ns 0) (by simp)
  · exact hx.elim
theorem sem_rngl (G : Gd X c W) {tp : Bool} {as : List Expr} {qs : EL} (hg0 : Gl X (if tp then "tuple" else "list")) (hm0 : X.mg (if tp then "tuple" else "list") = none) (hg : Gl X "range") (hm : X.mg "range" = none) (ha : PAq X c W C as qs) (hs : noStars as = true) {p pos p0 pos0 : Pos} (hl : as.length = 1 ∨ as.length = 2) :
    PEq X c W C (.Call (.Name (if tp then "tuple" else "list") p0) [.Call (.Name "range" p) as [] pos] [] pos0) (.rngl tp qs) := by
  have rg := sem_rg (p := p) (pos := pos) G hg hm ha hs hl
  cases tp with
  | true =>
    refine (pe_tupRgN (p := p0) (pos := pos0) G.hc hg0 hm0 rg (star_cons rfl _ _)).imp fun σ H Q h => ?_
    obtain ⟨en, fo, fs, F, hr⟩ := sem_rgA (tp := true) h
    refine ⟨en, fo, fs, F, hr.imp fun rs e k vs H' fo' fs' O S F' st ts nw => ?_⟩
    obtain ⟨ds, L, i, j, its, e1, ok, q⟩ := k vs H' fo' fs' O S F' st ts nw
    exact ⟨ds, L, i, j, its, e1, ok, q⟩
  | false =>
    refine (pe_listRg (p := p0) (pos := pos0) G.hc hg0 hm0 rg (star_cons rfl _ _)).imp fun σ H Q h => ?_
    obtain ⟨en, fo, fs, F, hr⟩ := sem_rgA (tp := false) h
    refine ⟨en, fo, fs, F, hr.imp fun rs e k vs H' fo' fs' O S F' st ts nw => ?_⟩
    obtain ⟨ds, L, i, j, its, e1, ok, q⟩ := k vs H' fo' fs' O S F' st ts nw
    exact ⟨ds, L, i, j, its, e1, ok, q⟩
/-! x.index(v) -/
theorem ints_at {ns : List Int} {us : List Value} (r : Vals (ns.map V.int) us) : PyProof.Rows.IntsAre us ns := intsAre_of r
theorem NoD.at {pins : List (Addr × Obj)} {σ : L2.St} {H : Hp} {s : Shared} (I : Inv X pins σ H s) {a : Addr} (h : NoD X.K H a) : ∃ ob, s.heap.get? a = some ob ∧ ob.dict = none := by
  rcases h with ⟨o, u, e, d⟩ | ⟨o, e, d⟩
  · exact ⟨o, (I.hok a _ e).1, d⟩
  · exact ⟨o, I.kIn a o e, d⟩
theorem sem_index (G : Gd X c W) {a b : Expr} {qa qb : E} {apos cpos : Pos} (ha : PEq X c W C a qa) (hb : PAq X c W C [b] (.cons qb .nil)) (hbase : plainBase a = true) (hs : noStar b = true) (hline : (apos.endLine == cpos.line) = true) :
    PEq X c W C (.Call (.Attribute a "index" apos) [b] [] cpos) (.mt .index qa (.cons qb .nil)) := by
  have hs1 : noStars [b] = true := by show (noStar b && true) = true; rw [hs]; rfl
  refine ⟨fun pins s σ H Q I h => ?_⟩
  obtain ⟨en, fo, fs, F, hr⟩ := h
  have hr : Res c W σ (KE c σ (muE qa ++ muL (.cons qb .nil)) en H fo fs Q) ((ev C qa en).bind fun x e1 => if isSq x.1 then (evL C (.cons qb .nil) e1).bind fun rs e2 => if pend x (muL (.cons qb .nil)) then okD (mtD .index x.1 (dsOf rs)) e2 else .stuck else .stuck) := hr
  refine wpAny_Call_method_late (base_of hbase _ _ _) (few_of hs1 (show 1 < 30 by decide) _ _) hline rfl ?_
  refine thn (ha.run pins s σ H _ I (tE_seq (Q := fun v H1 => (∃ en1 fo1 fs1 x o s, FR c en1 σ H1 fo1 fs1 ∧ Step (muE qa) en en1 H H1 fo fs fo1 fs1 ∧ TV c en1 σ H1 fo1 fs1 x v o s ∧ isSq x.1 = true ∧
      Res c W σ (KE c σ (muE qa ++ muL (.cons qb .nil)) en H fo fs Q) ((evL C (.cons qb .nil) en1).bind fun rs e2 => if pend x (muL (.cons qb .nil)) then okD (mtD .index x.1 (dsOf rs)) e2 else .stuck))) F hr fun x e1 hx v H1 fo1 fs1 o s F1 st1 tx nx => ?_)) fun u s1 ⟨v, H1, I1, r1, en1, fo1, fs1, x, o, s', F1, st1, tx, hsq, hx⟩ => ?_
  · split at hx
    · rename_i hq
      exact ⟨e1, fo1, fs1, x, o, s, F1, st1, tx, hq, hx⟩
    · exact hx.elim
  -- the argument
  have args : ∀ (k : ∀ (w : V) (H2 : Hp) (s2 : Shared) (u2 : Value), Inv X pins σ H2 s2 → RelV w u2 → (∃ d b s0 s2', RO c H2 x.1 0 v [] s0 ∧ RO c H2 d 0 w [] s2' ∧ mtD .index x.1 [d] = some b ∧ ∀ k, b = .int k → Q (.int k) H2) → wpAny (model X.prog X.w) X.A (call (.builtin (match x.1 with | .list _ => "list.index" | _ => "tuple.index")) [u, u2]) (EP X pins σ Q) X.xe s2),
      wpAny (model X.prog X.w) X.A (callWith cpos (.builtin (match x.1 with | .list _ => "list.index" | _ => "tuple.index")) [u] (backTo cpos (starEach [b] X.env)) []) (EP X pins σ Q) X.xe s1 := by
    intro k
    have h2 : tAr c W (muL (.cons qb .nil)) (evL C (.cons qb .nil)) σ H1 (fun ws H2 => ∃ w, ws = [w] ∧ (∃ d b s0 s2', RO c H2 x.1 0 v [] s0 ∧ RO c H2 d 0 w [] s2' ∧ mtD .index x.1 [d] = some b ∧ ∀ k, b = .int k → Q (.int k) H2)) := by
      refine tA_seqE F1 hx fun rs e2 he hy ws H2 fo2 fs2 O S F2 st2 ts nw => ?_
      obtain ⟨r, rfl⟩ := dsOf_one (evL_len (.cons qb .nil) en1 rs e2 he)
      obtain ⟨w, o1, s1, rfl, t⟩ := one_val ts
      split at hy
      · rename_i hp
        obtain ⟨s0, q0⟩ := (tx.carry F1 st2 hp).read
        obtain ⟨s1', q1⟩ := t.read
        have hy : Res c W σ (KE c σ (muE qa ++ muL (.cons qb .nil)) en H fo fs Q) (okD (mtD .index x.1 [r.1]) e2) := hy
        cases hm : mtD .index x.1 [r.1] with
        | none => rw [hm] at hy; exact hy.elim
        | some b =>
          rw [hm] at hy
          refine ⟨w, rfl, r.1, b, s0, s1', q0, q1, hm, fun k hk => ?_⟩
          subst hk
          exact KE.int hy F2 (st1.seq st2)
      · exact hy.elim
    have hA := hb.run cpos pins s1 σ H1 _ I1 h2
    rw [star_cons hs] at hA ⊢
    refine Calls.callWith_builtin rfl (Calls.evalArgs_plain ?_)
    exact thn hA fun us s2 ⟨vs, H2, I2, r2, w, ew, q2⟩ => by
      subst ew
      obtain ⟨u2, rfl, ru2⟩ := r2.one
      exact k w H2 s2 u2 I2 ru2 q2
  obtain ⟨d, kd⟩ := x
  cases d with
  | list ys =>
    obtain ⟨s0, q0⟩ := tx.read
    obtain ⟨a0, vs0, ev0, ha0, _⟩ := q0.list_sq
    subst ev0
    cases r1
    obtain ⟨its, n, rv0, ho, hz⟩ := I1.lst ha0
    refine ⟨"list", "list.index", PySem.F.plainAttrs_list, PySem.F.slot_list_index, PySem.F.type_list_index, ⟨_, ho, rfl⟩, (fun a' e => by cases e; exact ⟨_, ho, rfl⟩), args fun w H2 s2 u2 I2 ru ⟨d, b, s3, s4, q3, q4, hm, q⟩ => ?_⟩
    obtain ⟨a1, vs1, ev1, ha1, o', s', rr, _, _⟩ := q3.list_sq
    cases ev1
    unfold mtD at hm
    split at hm
    · rename_i xs i h1 h2 h3
      cases h2
      cases (List.cons.inj h3).1
      cases hn : intsD ys with
      | none => rw [hn] at hm; cases hm
      | some ns =>
        rw [hn] at hm
        have hm : (if i ∈ ns then some (PyData.int (ns.idxOf i)) else none) = some b := hm
        split at hm
        · rename_i hin
          cases hm
          have e0 := intsD_map hn
          subst e0
          rw [rr.ints] at ha1
          obtain ⟨its1, rv1, hl1, hz1⟩ := I2.list (SqL.of ha1)
          rw [q4.intV] at ru
          obtain ⟨t, eu⟩ := ru
          subst eu
          exact PySem.SeqAt.list_index_ints hl1.isList (ints_at rv1) (by rw [List.length_map] at hz1; exact hz1) hin ⟨.int _, H2, I2.tok _, ⟨_, rfl⟩, q _ rfl⟩
        · cases hm
    · rename_i h2 _; cases h2
    · cases hm
  | tuple ys =>
    obtain ⟨s0, q0⟩ := tx.read
    obtain ⟨a0, vs0, ev0, ha0, _⟩ := q0.tup_sq
    subst ev0
    cases r1
    obtain ⟨its, rv0, ht0, hz⟩ := I1.tuple (G.hK ▸ ha0.1)
    refine ⟨"tuple", "tuple.index", PySem.F.plainAttrs_tuple, PySem.F.slot_tuple_index, PySem.F.type_tuple_index, ht0.typeIs, (fun a' e => by cases e; exact NoD.at I1 (G.hK ▸ ha0.2)), args fun w H2 s2 u2 I2 ru ⟨d, b, s3, s4, q3, q4, hm, q⟩ => ?_⟩
    obtain ⟨a1, vs1, ev1, ha1, rr⟩ := q3.tup_sq
    cases ev1
    unfold mtD at hm
    split at hm
    · rename_i h2 _; cases h2
    · rename_i xs i h1 h2 h3
      cases h2
      cases (List.cons.inj h3).1
      cases hn : intsD ys with
      | none => rw [hn] at hm; cases hm
      | some ns =>
        rw [hn] at hm
        have hm : (if i ∈ ns then some (PyData.int (ns.idxOf i)) else none) = some b := hm
        split at hm
        · rename_i hin
          cases hm
          have e0 := intsD_map hn
          subst e0
          have ha2 := ha1.1
          rw [rr.ints] at ha2
          obtain ⟨its1, rv1, hl1, hz1⟩ := I2.tuple (G.hK ▸ ha2)
          rw [q4.intV] at ru
          obtain ⟨t, eu⟩ := ru
          subst eu
          exact PySem.SeqAt.tuple_index_ints hl1 (ints_at rv1) hin ⟨.int _, H2, I2.tok _, ⟨_, rfl⟩, q _ rfl⟩
        · cases hm
    · cases hm
  | none => cases hsq
  | bool _ => cases hsq
  | str _ => cases hsq
  | int _ => cases hsq
  | dict _ => cases hsq
end
end QQ
namespace QQ
open PySem L2

section
variable {c : Cb} {en e1 e2 : En} {σ : L2.St} {H H1 H2 : Hp} {fo fs fo1 fs1 fo2 fs2 : FP} {mu mu2 : List Nat}
/-! ### a step that may take in what waited -/
structure Stp (mu : List Nat) (en en' : En) (H H' : Hp) (fo fs fo' fs' : FP) : Prop where
  keep : ∀ a x, H a = some x → (∀ ps, x ≠ .tbl ps) → (∀ i, i ∈ mu → a ∉ fo i) → H' a = some x
  dom : ∀ a, H a ≠ none → H' a ≠ none
  oo : ∀ i a, a ∈ fo' i → a ∈ fo i ∨ (i ∈ mu ∧ (H a = none ∨ ∃ j, j ∈ mu ∧ a ∈ fo j))
  ss : ∀ i, i ∉ mu → ∀ a, a ∈ fs' i → a ∈ fs i ∨ a ∈ fo i
  all : ∀ i, i ∉ mu → ∀ a, a ∈ fo i ∨ a ∈ fs i → a ∈ fo' i ∨ a ∈ fs' i
theorem Step.weak (st : Step mu en e1 H H1 fo fs fo1 fs1) : Stp mu en e1 H H1 fo fs fo1 fs1 :=
  ⟨st.keep, st.dom, st.oo, fun i hi a ha => (st.ss i a ha).imp id fun h => h.elim id fun h => absurd h.1 hi, st.all⟩
theorem Stp.mono {mu' : List Nat} (s : Stp mu en e1 H H1 fo fs fo1 fs1) (h : ∀ i, i ∈ mu → i ∈ mu') : Stp mu' en e1 H H1 fo fs fo1 fs1 :=
  ⟨fun a x e t k => s.keep a x e t fun i hi => k i (h i hi), s.dom, fun i a q => (s.oo i a q).imp id fun ⟨p, r⟩ => ⟨h i p, r.imp id fun ⟨j, p, q⟩ => ⟨j, h j p, q⟩⟩,
    fun i hi => s.ss i fun q => hi (h i q), fun i hi => s.all i fun q => hi (h i q)⟩
theorem Stp.trans (s : Stp mu en e1 H H1 fo fs fo1 fs1) (t : Stp mu e1 e2 H1 H2 fo1 fs1 fo2 fs2) : Stp mu en e2 H H2 fo fs fo2 fs2 where
  keep := fun a x e q k => by
    refine t.keep a x (s.keep a x e q k) q fun i hi z => ?_
    rcases s.oo i a z with z | ⟨_, z | ⟨j, hj, z⟩⟩
    · exact k i hi z
    · rw [e] at z; cases z
    · exact k j hj z
  dom := fun a h => t.dom a (s.dom a h)
  oo := fun i a z => by
    rcases t.oo i a z with z | ⟨hi, z | ⟨j, hj, z⟩⟩
    · exact s.oo i a z
    · refine .inr ⟨hi, .inl ?_⟩
      cases e : H a with
      | none => rfl
      | some x => exact absurd z (s.dom a (by rw [e]; simp))
    · refine .inr ⟨hi, ?_⟩
      rcases s.oo j a z with z | ⟨_, z⟩
      · exact .inr ⟨j, hj, z⟩
      · exact z
  ss := fun i hi a z => by
    rcases t.ss i hi a z with z | z
    · exact s.ss i hi a z
    · rcases s.oo i a z with z | ⟨z, _⟩
      · exact .inr z
      · exact absurd z hi
  all := fun i hi a z => t.all i hi a (s.all i hi a z)
theorem Stp.new {a : Addr} (s : Stp mu en e1 H H1 fo fs fo1 fs1) (h : H1 a = none) : H a = none := by
  cases e : H a with
  | none => rfl
  | some x => exact absurd h (s.dom a (by rw [e]; simp))
/-! ### an item at a turn -/
/-- it stood there, and no slot that changes owned it -/
def Bf (H1 : Hp) (fo1 : FP) (mu2 : List Nat) (s : List Addr) : Prop := ∀ a, a ∈ s → H1 a ≠ none ∧ ∀ j, j ∈ mu2 → a ∉ fo1 j
/-- x lies at v (v came with the step from H to H'): it is there, or it is a new pair -/
def ItemAt (c : Cb) (pr : Bool) (H H' : Hp) (fo : FP) (H0 : Hp) (fo0 fs0 : FP) (H1 : Hp) (fo1 : FP) (mu2 : List Nat) (x : D) (v : V) : Prop :=
  (H' = H ∧ ∃ s, RO c H x 0 v [] s ∧ Sh c fo H0 fo0 fs0 s ∧ Bf H1 fo1 mu2 s) ∨
  pr = true ∧ ∃ T d1 d2 w1 w2 s1 s2, x = .tuple [d1, d2] ∧ v = .ref T ∧ H T = none ∧ H' = upd H T (.tup [w1, w2]) ∧ RO c H d1 0 w1 [] s1 ∧ RO c H d2 0 w2 [] s2 ∧ Sh c fo H0 fo0 fs0 (s1 ++ s2) ∧ Bf H1 fo1 mu2 (s1 ++ s2)
/-- what J gives, turn by turn, while the slots at roots stay -/
def Stand (c : Cb) (pr : Bool) (J : L2.It) (xs : List D) (roots : List Nat) (e1 : En) (H1 : Hp) (fo1 fs1 : FP) (H0 : Hp) (fo0 fs0 : FP) : Prop :=
  ∀ mu2 e2 H2 fo2 fs2 σ2, (∀ i, i ∈ roots → i ∉ mu2) → FR c e2 σ2 H2 fo2 fs2 → Stp mu2 e1 e2 H1 H2 fo1 fs1 fo2 fs2 →
    (∀ i x, xs[i]? = some x → J.go i H2 ∧ ∀ v H', J.yld i H2 v H' → ItemAt c pr H2 H' fo2 H0 fo0 fs0 H1 fo1 mu2 x v) ∧ J.stop xs.length H2
def KI (c : Cb) (pr : Bool) (σ : L2.St) (mu : List Nat) (en : En) (H : Hp) (fo fs : FP) (R : L2.It → Hp → Prop) (r : List D × List Nat) (e : En) : Prop :=
  ∀ J H' fo' fs', FR c e σ H' fo' fs' → Step mu en e H H' fo fs fo' fs' → Stand c pr J r.1 r.2 e H' fo' fs' H fo fs → R J H'
/-- it gives new pairs -/
def isPair : QQ.IT → Bool
  | .seq _ => false
  | .rng _ => false
  | _ => true
def tIt (c : Cb) (pr : Bool) (W : WX) (mu : List Nat) (den : En → Out (List D × List Nat)) : TI := fun σ H R => ∃ en fo fs, FR c en σ H fo fs ∧ Res c W σ (KI c pr σ mu en H fo fs R) (den en)
/-- what is walked, at a later state -/
theorem TV.later {r : D × Kd} {v : V} {o s : List Addr} {σ2 : L2.St} (t : TV c e1 σ H1 fo1 fs1 r v o s) (nw : New mu H fo fs o s) (F1 : FR c e1 σ H1 fo1 fs1) (st : Step mu en e1 H H1 fo fs fo1 fs1) (hi : itemsOk r = true)
    (hr : ∀ i, i ∈ rootsOf r → i ∉ mu2) (F2 : FR c e2 σ2 H2 fo2 fs2) (st2 : Stp mu2 e1 e2 H1 H2 fo1 fs1 fo2 fs2) : ∃ i, It c H2 r.1 v i ∧ Sh c fo2 H fo fs i ∧ Bf H1 fo1 mu2 i := by
  obtain ⟨i, it, sh, ad⟩ := t.shared' F1 st nw hi
  have bf : Bf H1 fo1 mu2 i := fun a ha => by
    have ad := ad a ha
    obtain ⟨d, k⟩ := r
    cases k with
    | own n =>
      have t : Own c H1 fo1 fs1 d n v o s := t
      have ad : a ∈ o ∨ a ∈ s := ad
      rcases ad with h | h
      · exact ⟨t.ro.some_o h, fun j _ => (t.of a h j).1⟩
      · exact ⟨t.ro.some_s h, fun j _ => t.sf a h j⟩
    | root i0 m w =>
      have ad : (a ∈ fo1 i0 ∨ a ∈ fs1 i0) ∧ ∀ j, a ∉ fo1 j := ad
      exact ⟨F1.there ad.1, fun j _ => ad.2 j⟩
  have sh2 : Sh c fo2 H fo fs i := fun a ha => ⟨fun j z => by
    rcases st2.oo j a z with z | ⟨_, z | ⟨k, _, z⟩⟩
    · exact (sh a ha).1 j z
    · exact (bf a ha).1 z
    · exact (sh a ha).1 k z, (sh a ha).2⟩
  -- the value itself stays
  have top : ∀ a x, H1 a = some x → (∀ ps, x ≠ .tbl ps) → (fixO x = true ∨ ∃ xs vs, r.1 = .list xs ∧ v = .ref a ∧ x = .lst vs) → H2 a = some x := fun a x e nt h => by
    refine st2.keep a x e nt fun j hj z => ?_
    rcases h with h | ⟨xs, vs, hd, hv, hx⟩
    · rw [F1.notFix z e] at h; cases h
    · obtain ⟨d, k⟩ := r
      have hd : d = .list xs := hd
      subst hd
      cases k with
      | own n =>
        have t : Own c H1 fo1 fs1 (.list xs) n v o s := t
        have hm : a ∈ o ∨ a ∈ s := by
          have q := t.ro
          cases n with
          | zero =>
            rw [RO] at q
            obtain ⟨b, ws, eb, _, s', _, es⟩ := q
            rw [hv] at eb; cases eb
            exact .inr (by rw [es]; exact List.mem_cons_self ..)
          | succ m =>
            rw [RO] at q
            obtain ⟨b, ws, eb, _, o', _, eo⟩ := q
            rw [hv] at eb; cases eb
            exact .inl (by rw [eo]; exact List.mem_cons_self ..)
        rcases hm with h | h
        · exact (t.of a h j).1 z
        · exact t.sf a h j z
      | root i0 m w =>
        obtain ⟨_, _, ⟨o0, s0, q, ho, hs⟩, _⟩ := t
        have hm : a ∈ o0 ∨ a ∈ s0 := by
          cases m with
          | zero =>
            rw [RO] at q
            obtain ⟨b, ws, eb, _, s', _, es⟩ := q
            rw [hv] at eb; cases eb
            exact .inr (by rw [es]; exact List.mem_cons_self ..)
          | succ m =>
            rw [RO] at q
            obtain ⟨b, ws, eb, _, o', _, eo⟩ := q
            rw [hv] at eb; cases eb
            exact .inl (by rw [eo]; exact List.mem_cons_self ..)
        have hi0 : i0 ∉ mu2 := hr i0 (by simp [rootsOf])
        rcases hm with h | h
        · rcases ho a h with h | h
          · exact (F1.dj j i0 a z).2 (fun e => hi0 (e ▸ hj)) h
          · exact (F1.dj j i0 a z).1 h
        · exact (hs a h).2 j z
  have stab : Stab H1 H2 i := fun a x e h => by
    rcases h with h | h
    · exact top a x e (fixO_tbl h) (.inl h)
    · refine st2.keep a x e ?_ fun j hj => (bf a h).2 j hj
      -- it is a part of a datum
      by_cases hl : ∃ xs, r.1 = .list xs
      · obtain ⟨xs, hl⟩ := hl
        obtain ⟨b, vs, _, _, rr⟩ := it.1 xs hl
        intro ps z
        obtain ⟨y, q, _, t⟩ := (ROs.at xs 0 vs [] i rr).2 a h
        rw [e] at q; cases q
        exact t ps z
      · have rr := it.2 fun xs e => hl ⟨xs, e⟩
        exact rr.noTbl a (List.mem_append_right _ h) x e
  refine ⟨i, ⟨fun xs hd => ?_, fun hn => ?_⟩, sh2, bf⟩
  · obtain ⟨b, vs, ev, hb, rr⟩ := it.1 xs hd
    exact ⟨b, vs, ev, top b _ hb (fun ps z => by cases z) (.inr ⟨xs, vs, hd, ev, rfl⟩), ROs.stab xs 0 vs [] i rr stab⟩
  · exact RO.stab _ 0 v [] i (it.2 hn) stab
theorem It.item {xs : List D} {vs : List V} {i : List Addr} (r : ROs c H xs 0 vs [] i) {j : Nat} {x : D} (hx : xs[j]? = some x) : ∃ v s, vs[j]? = some v ∧ RO c H x 0 v [] s ∧ ∀ a, a ∈ s → a ∈ i := by
  obtain ⟨v, o', s', h1, h2, h3, h4⟩ := ROs.get xs 0 vs [] i r j x hx
  have e : o' = [] := RO.zero x v o' s' h2
  subst e
  exact ⟨v, s', h1, h2, h4⟩
/-- a list, a tuple -/
theorem stand_seq {K : PySem.W.Frag} (hK : K = c.K) {r : D × Kd} {v : V} {o s : List Addr} {xs : List D} (t : TV c e1 σ H1 fo1 fs1 r v o s) (nw : New mu H fo fs o s) (F1 : FR c e1 σ H1 fo1 fs1) (st : Step mu en e1 H H1 fo fs fo1 fs1) (hx : itemsD r = some xs) :
    ∃ a, v = .ref a ∧ (((∃ xs, SqL K H1 a xs) ∧ Stand c false (Itl K a) xs (rootsOf r) e1 H1 fo1 fs1 H fo fs) ∨ ((∃ xs, SqT K H1 a xs) ∧ Stand c false (Itt K a) xs (rootsOf r) e1 H1 fo1 fs1 H fo fs)) := by
  subst hK
  unfold itemsD at hx
  split at hx
  · rename_i hi
    obtain ⟨d, k⟩ := r
    cases d with
    | list ys =>
      cases hx
      obtain ⟨s0, q0⟩ := t.read
      obtain ⟨a, vs, ev, ha, _⟩ := q0.list_sq
      refine ⟨a, ev, .inl ⟨⟨vs, SqL.of ha⟩, fun mu2 e2 H2 fo2 fs2 σ2 hr F2 st2 => ?_⟩⟩
      obtain ⟨i, it, sh, bf⟩ := t.later nw F1 st hi hr F2 st2
      obtain ⟨a2, vs2, ev2, ha2, rr⟩ := it.list
      rw [ev] at ev2
      cases ev2
      refine ⟨fun j x hj => ?_, ⟨vs2, SqL.of ha2, by rw [rr.len']; exact Nat.le_refl _⟩⟩
      obtain ⟨w, s', h1, h2, h3⟩ := It.item rr hj
      refine ⟨⟨vs2, w, SqL.of ha2, h1⟩, fun v' H' ⟨eH, hy⟩ => .inl ⟨eH, s', ?_, sh.sub h3, fun a ha => bf a (h3 a ha)⟩⟩
      have := hy vs2 (SqL.of ha2)
      rw [h1] at this
      cases this
      exact h2
    | tuple ys =>
      cases hx
      obtain ⟨s0, q0⟩ := t.read
      obtain ⟨a, vs, ev, ha, _⟩ := q0.tup_sq
      refine ⟨a, ev, .inr ⟨⟨vs, ha.1⟩, fun mu2 e2 H2 fo2 fs2 σ2 hr F2 st2 => ?_⟩⟩
      obtain ⟨i, it, sh, bf⟩ := t.later nw F1 st hi hr F2 st2
      obtain ⟨a2, vs2, ev2, ha2, rr⟩ := it.tup
      rw [ev] at ev2
      cases ev2
      refine ⟨fun j x hj => ?_, ⟨vs2, ha2.1, by rw [rr.len']; exact Nat.le_refl _⟩⟩
      obtain ⟨w, s', h1, h2, h3⟩ := It.item rr hj
      refine ⟨⟨vs2, w, ha2.1, h1⟩, fun v' H' ⟨eH, hy⟩ => .inl ⟨eH, s', ?_, sh.sub h3, fun a ha => bf a (h3 a ha)⟩⟩
      have := hy vs2 ha2.1
      rw [h1] at this
      cases this
      exact h2
    | none => cases hx
    | bool _ => cases hx
    | str _ => cases hx
    | int _ => cases hx
    | dict _ => cases hx
  · cases hx
theorem stand_range {i j : Int} {ns : List Int} (h : rgV i j = ns.map V.int) : Stand c false (Itr i (j - i).toNat) (ns.map PyData.int) [] e1 H1 fo1 fs1 H fo fs := by
  intro mu2 e2 H2 fo2 fs2 σ2 _ F2 st2
  have hl : ns.length = (j - i).toNat := by
    have := congrArg List.length h
    rw [rgV_length, List.length_map] at this
    exact this.symm
  refine ⟨fun k x hk => ?_, by show (j - i).toNat ≤ (ns.map PyData.int).length; rw [List.length_map, hl]; exact Nat.le_refl _⟩
  rw [List.getElem?_map] at hk
  cases hn : ns[k]? with
  | none => rw [hn] at hk; cases hk
  | some m =>
    rw [hn] at hk
    cases hk
    have hlt : k < (j - i).toNat := by
      rw [← hl]; exact (List.getElem?_eq_some_iff.mp hn).1
    refine ⟨hlt, fun v H' ⟨eH, ev⟩ => .inl ⟨eH, [], ?_, Sh.nil, fun a ha => absurd ha (by simp)⟩⟩
    have e1 : (rgV i j)[k]? = some (V.int m) := by rw [h, List.getElem?_map, hn]; rfl
    have e2 : (rgV i j)[k]? = some (V.int (i + (k : Nat))) := by
      unfold rgV
      rw [List.getElem?_map, List.getElem?_range hlt]; rfl
    rw [e1] at e2
    rw [ev, ← Option.some.inj e2, RO]
    exact ⟨rfl, rfl, rfl⟩
end
section
variable {X : Cx} {c : Cb} {W : WX} {C : Orc}
/-- for .. in x, x a list or a tuple -/
theorem pi_any {tg l : Expr} {tl : TE} (hl : PE X l tl) : PI X tg l (fun σ H R => tl σ H fun x H1 => ∃ a, x = .ref a ∧ (((∃ xs, SqL X.K H1 a xs) ∧ R (Itl X.K a) H1) ∨ ((∃ xs, SqT X.K H1 a xs) ∧ R (Itt X.K a) H1))) := by
  refine ⟨fun pins s σ H R I h => ?_⟩
  refine thn (hl.run pins s σ H _ I h) fun v s1 ⟨x, H1, I1, r1, q1⟩ => ?_
  obtain ⟨a, e, q1⟩ := q1
  subst e
  cases r1
  rcases q1 with ⟨⟨xs, hq⟩, q⟩ | ⟨⟨xs, hq⟩, q⟩
  · obtain ⟨its, rv, p, hz⟩ := I1.list hq
    refine wpAny_pyIter_list p.isList ?_
    refine ⟨s1.heap.objs.size, [s1.heap.objs.size], _, _, H1, rfl, I1.kept (t' := s1.toks) fun b o e => Heap.get?_push_of_some _ e, turn_list a _, ⟨_, Heap.get?_push_size _ rfl, rfl, rfl⟩, fun b hb => ?_, q⟩
    have e : b = s1.heap.objs.size := by simpa using hb
    subst e
    exact I1.fpOk (Nat.le_refl _) (I1.hok.fresh (Nat.le_refl _))
  · obtain ⟨its, rv, p, hz⟩ := I1.tuple hq
    refine wpAny_pyIter_tuple (show s1.heap.IsTuple a its.toArray from p) ?_
    refine ⟨s1.heap.objs.size, [s1.heap.objs.size], _, _, H1, rfl, I1.kept (t' := s1.toks) fun b o e => Heap.get?_push_of_some _ e, turn_tuple a _, ⟨_, Heap.get?_push_size _ rfl, rfl, rfl⟩, fun b hb => ?_, q⟩
    have e : b = s1.heap.objs.size := by simpa using hb
    subst e
    exact I1.fpOk (Nat.le_refl _) (I1.hok.fresh (Nat.le_refl _))
abbrev PIq (X : Cx) (c : Cb) (W : WX) (C : Orc) (tg e : Expr) (q : QQ.IT) : Prop := PI X tg e (tIt c (isPair q) W (muI q) (evI C q))
theorem _root_.L2.PI.imp {X : Cx} {tg e : Expr} {t t' : TI} (h : PI X tg e t) (i : ∀ σ H Q, t' σ H Q → t σ H Q) : PI X tg e t' := ⟨fun pins s σ H Q I q => h.run pins s σ H Q I (i σ H Q q)⟩
theorem sem_itseq (G : Gd X c W) {tg e : Expr} {q : E} (he : PEq X c W C e q) : PIq X c W C tg e (.seq q) := by
  refine (pi_any he).imp fun σ H R h => ?_
  obtain ⟨en, fo, fs, F, hr⟩ := h
  have hr : Res c W σ (KI c false σ (muE q) en H fo fs R) ((ev C q en).bind fun r e1 => match itemsD r with
      | some xs => .ok (xs, rootsOf r) e1
      | none => .stuck) := hr
  refine tE_seq F hr fun x e1 hx v H1 fo1 fs1 o s F1 st1 tx nx => ?_
  split at hx
  · rename_i xs hxs
    obtain ⟨a, ev, h⟩ := stand_seq (K := X.K) G.hK tx nx F1 st1 hxs
    exact ⟨a, ev, h.imp (fun ⟨p, q⟩ => ⟨p, hx _ H1 fo1 fs1 F1 st1 q⟩) fun ⟨p, q⟩ => ⟨p, hx _ H1 fo1 fs1 F1 st1 q⟩⟩
  · exact hx.elim
theorem pi_rng (G : Gd X c W) {tg : Expr} {as : List Expr} {qs : EL} (hg : Gl X "range") (hm : X.mg "range" = none) (ha : PAq X c W C as qs) (hs : noStars as = true) {p pos : Pos} (hl : as.length = 1 ∨ as.length = 2) :
    PI X tg (.Call (.Name "range" p) as [] pos) (fun σ H R => tAr c W (muL qs) (evL C qs) σ H fun vs H1 => ∃ ds L i j, Its c H1 ds vs L ∧ rgArg ds = some (i, j) ∧ RgOk i j ∧ R (Itr i (j - i).toNat) H1) := by
  refine ⟨fun pins s σ H R I h2 => ?_⟩
  have key : ∀ (us : List Value) (s1 : Shared), AP X pins σ (fun vs H1 => ∃ ds L i j, Its c H1 ds vs L ∧ rgArg ds = some (i, j) ∧ RgOk i j ∧ R (Itr i (j - i).toNat) H1) us s1 →
      wpAny (model X.prog X.w) X.A (call (.type "range") us) (fun v s1 => wpAny (model X.prog X.w) X.A (pyIter v) (PIE X pins σ tg R) X.xe s1) X.xe s1 := by
    rintro us s1 ⟨vs, H1, I1, rv, ds, L, i, j, its, e, ⟨b1, b2, b3, b4, b5⟩, q⟩
    unfold rgArg at e
    split at e
    · cases e
      obtain ⟨v, ev, it⟩ := its.one
      subst ev
      rw [it.int] at rv
      obtain ⟨u, eu, t, et⟩ := vals1 rv
      subst eu et
      exact call_range_1 (range_it I1 (by omega) (by omega) b3 b4 (by simpa using q))
    · cases e
      obtain ⟨v, w, _, _, ev, it, it2⟩ := its.two
      subst ev
      rw [it.int, it2.int] at rv
      obtain ⟨u, u2, eu, ⟨t, et⟩, ⟨t2, et2⟩⟩ := rv.two
      subst eu et et2
      exact call_range_2 (range_it I1 b1 b2 b3 b4 q)
    · cases e
  cases as with
  | nil => rcases hl with h | h <;> cases h
  | cons a as =>
    have hs' : (noStar a && noStars as) = true := hs
    rw [Bool.and_eq_true] at hs'
    exact PyProof.Rows.Call_ (ld_blt I hg hm PyProof.Rows.boot_range (PyProof.Rows.callWith_type1 (thn (ha.run pos pins s σ H _ I h2) key) (star_cons hs'.1 _ _) (star_any hs'.2 _ _)))
theorem sem_itrng (G : Gd X c W) {tg : Expr} {as : List Expr} {qs : EL} (hg : Gl X "range") (hm : X.mg "range" = none) (ha : PAq X c W C as qs) (hs : noStars as = true) {p pos : Pos} (hl : as.length = 1 ∨ as.length = 2) :
    PIq X c W C tg (.Call (.Name "range" p) as [] pos) (.rng qs) := by
  refine (pi_rng G hg hm ha hs hl).imp fun σ H R h => ?_
  obtain ⟨en, fo, fs, F, hr⟩ := h
  have hr : Res c W σ (KI c false σ (muL qs) en H fo fs R) ((evL C qs en).bind fun rs e1 => match rangeD (dsOf rs) with
    | some xs => .ok (xs, []) e1
    | none => .stuck) := hr
  refine tA_seqE F hr fun rs e1 he hx vs H1 fo1 fs1 O S F1 st ts nw => ?_
  split at hx
  · rename_i xs hd
    obtain ⟨i, j, ns, h1, h2, h3, h4⟩ := rangeD_of hd
    have hi : (rs.all itemsOk) = true := by
      rw [List.all_eq_true]
      intro r hr'
      have : ∃ k, r.1 = .int k := by
        unfold rgArg at h1
        have hm : r.1 ∈ dsOf rs := List.mem_map.mpr ⟨r, hr', rfl⟩
        split at h1
        · rename_i e; rw [e] at hm; exact ⟨_, List.mem_singleton.mp hm⟩
        · rename_i e; rw [e] at hm
          rcases List.mem_cons.mp hm with e | e
          · exact ⟨_, e⟩
          · exact ⟨_, List.mem_singleton.mp e⟩
        · cases h1
      obtain ⟨k, hk⟩ := this
      unfold itemsOk
      cases hkd : r.2 with
      | own _ => rfl
      | root _ _ _ => simp [hk, lf]
    obtain ⟨L, its, sh⟩ := ts.its F1 st nw hi
    subst h2
    exact ⟨dsOf rs, L, i, j, its, h1, h4, hx _ H1 fo1 fs1 F1 st (stand_range h3)⟩
  · exact hx.elim
/-! ### walks of what stays: tuples, ranges -/
def StandF (c : Cb) (J : L2.It) (xs : List D) (H1 : Hp) : Prop := ∀ H2, (∀ a x, H1 a = some x → fixO x = true → H2 a = some x) → (∀ i x, xs[i]? = some x → J.go i H2 ∧ ∀ v H', J.yld i H2 v H' → H' = H2 ∧ RO c H2 x 0 v [] []) ∧ J.stop xs.length H2
def KF (c : Cb) (σ : L2.St) (mu : List Nat) (en : En) (H : Hp) (fo fs : FP) (R : L2.It → Hp → Prop) (xs : List D) (e : En) : Prop := ∀ J H' fo' fs', FR c e σ H' fo' fs' → Step mu en e H H' fo fs fo' fs' → StandF c J xs H' → R J H'
def tItF (c : Cb) (W : WX) (mu : List Nat) (den : En → Out (List D)) : TI := fun σ H R => ∃ en fo fs, FR c en σ H fo fs ∧ Res c W σ (KF c σ mu en H fo fs R) (den en)
abbrev PIf (X : Cx) (c : Cb) (W : WX) (C : Orc) (tg e : Expr) (q : QQ.IT) : Prop := PI X tg e (tItF c W (muI q) (evF C q))
theorem sem_itseqF (G : Gd X c W) {tg e : Expr} {q : E} (he : PEq X c W C e q) : PIf X c W C tg e (.seq q) := by
  refine (pi_any he).imp fun σ H R h => ?_
  obtain ⟨en, fo, fs, F, hr⟩ := h
  have hr : Res c W σ (KF c σ (muE q) en H fo fs R) ((ev C q en).bind fun r e1 => match r.1 with
      | .tuple xs => if lfs xs then .ok xs e1 else .stuck
      | _ => .stuck) := hr
  refine tE_seq F hr fun x e1 hx v H1 fo1 fs1 o s F1 st1 tx nx => ?_
  obtain ⟨d, k⟩ := x
  cases d with
  | tuple ys =>
    have hx : Res c W σ (KF c σ (muE q) en H fo fs R) (if lfs ys then .ok ys e1 else .stuck) := hx
    split at hx
    · rename_i hl
      have hl' : QQ.lf (.tuple ys) = true := hl
      obtain ⟨s0, q0⟩ := tx.read
      obtain ⟨_, es, q1⟩ := RO.lf _ 0 0 v [] s0 hl' q0
      obtain ⟨a, vs, ev, ha, rr⟩ := q1.tup_sq
      have G1 := G.hK
      refine ⟨a, ev, .inr ⟨⟨vs, by rw [G1]; exact ha.1⟩, hx _ H1 fo1 fs1 F1 st1 fun H2 k => ?_⟩⟩
      have ha2 := sqN_stab k ha
      have rr2 : ROs c H2 ys 0 vs [] [] := ROs.stab ys 0 vs [] [] rr fun a x e h => by
        rcases h with h | h
        · exact k a x e h
        · cases h
      refine ⟨fun j x hj => ?_, ⟨vs, by rw [G1]; exact ha2.1, by rw [rr2.len']; exact Nat.le_refl _⟩⟩
      obtain ⟨w, s', h1, h2, h3⟩ := It.item rr2 hj
      have e0 : s' = [] := List.eq_nil_iff_forall_not_mem.mpr fun a ha => by cases h3 a ha
      subst e0
      refine ⟨⟨vs, w, by rw [G1]; exact ha2.1, h1⟩, fun v' H' ⟨eH, hy⟩ => ⟨eH, ?_⟩⟩
      have := hy vs (by rw [G1]; exact ha2.1)
      rw [h1] at this
      cases this
      exact h2
    · exact hx.elim
  | none => exact hx.elim
  | bool _ => exact hx.elim
  | str _ => exact hx.elim
  | int _ => exact hx.elim
  | list _ => exact hx.elim
  | dict _ => exact hx.elim
theorem standF_range {i j : Int} {ns : List Int} {H1 : Hp} (h : rgV i j = ns.map V.int) : StandF c (Itr i (j - i).toNat) (ns.map PyData.int) H1 := by
  intro H2 _
  have hl : ns.length = (j - i).toNat := by
    have := congrArg List.length h
    rw [rgV_length, List.length_map] at this
    exact this.symm
  refine ⟨fun k x hk => ?_, by show (j - i).toNat ≤ (ns.map PyData.int).length; rw [List.length_map, hl]; exact Nat.le_refl _⟩
  rw [List.getElem?_map] at hk
  cases hn : ns[k]? with
  | none => rw [hn] at hk; cases hk
  | some m =>
    rw [hn] at hk
    cases hk
    have hlt : k < (j - i).toNat := by
      rw [← hl]; exact (List.getElem?_eq_some_iff.mp hn).1
    refine ⟨hlt, fun v H' ⟨eH, ev⟩ => ⟨eH, ?_⟩⟩
    have e1 : (rgV i j)[k]? = some (V.int m) := by rw [h, List.getElem?_map, hn]; rfl
    have e2 : (rgV i j)[k]? = some (V.int (i + (k : Nat))) := by
      unfold rgV
      rw [List.getElem?_map, List.getElem?_range hlt]; rfl
    rw [e1] at e2
    rw [ev, ← Option.some.inj e2, RO]
    exact ⟨rfl, rfl, rfl⟩
theorem sem_itrngF (G : Gd X c W) {tg : Expr} {as : List Expr} {qs : EL} (hg : Gl X "range") (hm : X.mg "range" = none) (ha : PAq X c W C as qs) (hs : noStars as = true) {p pos : Pos} (hl : as.length = 1 ∨ as.length = 2) :
    PIf X c W C tg (.Call (.Name "range" p) as [] pos) (.rng qs) := by
  refine (pi_rng G hg hm ha hs hl).imp fun σ H R h => ?_
  obtain ⟨en, fo, fs, F, hr⟩ := h
  have hr : Res c W σ (KF c σ (muL qs) en H fo fs R) ((evL C qs en).bind fun rs e1 => match rangeD (dsOf rs) with
    | some xs => .ok xs e1
    | none => .stuck) := hr
  refine tA_seqE F hr fun rs e1 he hx vs H1 fo1 fs1 O S F1 st ts nw => ?_
  split at hx
  · rename_i xs hd
    obtain ⟨i, j, ns, h1, h2, h3, h4⟩ := rangeD_of hd
    have hi : (rs.all itemsOk) = true := by
      rw [List.all_eq_true]
      intro r hr'
      have : ∃ k, r.1 = .int k := by
        unfold rgArg at h1
        have hm : r.1 ∈ dsOf rs := List.mem_map.mpr ⟨r, hr', rfl⟩
        split at h1
        · rename_i e; rw [e] at hm; exact ⟨_, List.mem_singleton.mp hm⟩
        · rename_i e; rw [e] at hm
          rcases List.mem_cons.mp hm with e | e
          · exact ⟨_, e⟩
          · exact ⟨_, List.mem_singleton.mp e⟩
        · cases h1
      obtain ⟨k, hk⟩ := this
      unfold itemsOk
      cases hkd : r.2 with
      | own _ => rfl
      | root _ _ _ => simp [hk, lf]
    obtain ⟨L, its, sh⟩ := ts.its F1 st nw hi
    subst h2
    exact ⟨dsOf rs, L, i, j, its, h1, h4, hx _ H1 fo1 fs1 F1 st (standF_range h3)⟩
  · exact hx.elim
end
/-! ### targets -/
mutual
def gPt (K : PySem.W.Frag) : Pat → TG
  | .nm i => gName i
  | .tp ps => gTup K ps.length (gPts K ps)
def gPts (K : PySem.W.Frag) : List Pat → TGs
  | [] => gNil
  | p :: ps => gCons (gPt K p) (gPts K ps)
end
section
variable {c : Cb} {en0 e : En} {σ : L2.St} {H0 H : Hp} {fo0 fs0 fo fs : FP} {mu : List Nat}
/-- a shared value is put in a slot -/
theorem put_item (F : FR c e σ H fo fs) (st : Step mu en0 e H0 H fo0 fs0 fo fs) {i : Nat} {d : D} {v : V} {s : List Addr} (hi : i ∈ mu) (hl : i < e.length) (hv : ∀ p ∈ c.iov, p.1 ≠ i) (r : RO c H d 0 v [] s) (sh : Sh c fo H0 fo0 fs0 s) :
    FR c (e.set i (some (d, 0))) (σ.set i (some v)) H (updF fo i []) (updF fs i s) ∧ Step mu en0 (e.set i (some (d, 0))) H0 H fo0 fs0 (updF fo i []) (updF fs i s) := by
  have hl' : i < σ.length := by rw [← F.len]; exact hl
  have F1 := F.clear i
  have F2 : FR c (e.set i none) (σ.set i (some v)) H (updF fo i []) (updF fs i []) := F1.sigma (by rw [List.length_set]) (fun j p hj => by
    by_cases hij : j = i
    · subst hij; rw [List.getElem?_set_self hl] at hj; cases hj
    · rw [List.getElem?_set_ne (Ne.symm hij)]) fun p hp => List.getElem?_set_ne (Ne.symm (hv p hp))
  have w : Own c H (updF fo i []) (updF fs i []) d 0 v [] s := ⟨r, List.nodup_nil, by simp, by simp, fun a ha j => by
    by_cases hij : j = i
    · subst hij; rw [updF_same]; simp
    · rw [updF_ne hij]; exact (sh a ha).1 j, by simp, fun a ha => (sh a ha).2.1⟩
  have F3 := F2.put (fun p z => by rw [List.getElem?_set_self hl] at z; cases z) w (by rw [List.length_set]; exact hl) (List.getElem?_set_self hl')
  rw [set_set, updF_updF, updF_updF] at F3
  refine ⟨F3, ⟨st.keep, st.dom, fun j a ha => ?_, fun j a ha => ?_, fun j hj => ?_, fun j hj a ha => ?_, fun j hj => ?_⟩⟩
  · by_cases hij : j = i
    · subst hij; rw [updF_same] at ha; cases ha
    · rw [updF_ne hij] at ha; exact st.oo j a ha
  · by_cases hij : j = i
    · subst hij; rw [updF_same] at ha; exact .inr (.inr ⟨hi, (sh a ha).2.2⟩)
    · rw [updF_ne hij] at ha; exact st.ss j a ha
  · have hij : j ≠ i := fun z => hj (z ▸ hi)
    rw [List.getElem?_set_ne (Ne.symm hij)]; exact st.val j hj
  · have hij : j ≠ i := fun z => hj (z ▸ hi)
    rw [updF_ne hij, updF_ne hij]; exact st.all j hj a ha
  · have hij : j ≠ i := fun z => hj (z ▸ hi)
    unfold depthAt
    rw [List.getElem?_set_ne (Ne.symm hij)]; exact st.dep j hj
/-- what the slots are made of, behind the targets: as ahead, or of s -/
structure Put (e e' : En) (σ σ' : L2.St) (fo fs fo' fs' : FP) (is : List Nat) (s : List Addr) : Prop where
  len : σ'.length = σ.length
  slot : ∀ j : Nat, j ∉ is → σ'[j]? = σ[j]?
  env : ∀ j : Nat, j ∉ is → e'[j]? = e[j]?
  elen : e'.length = e.length
  same : ∀ j : Nat, j ∉ is → fo' j = fo j ∧ fs' j = fs j
  fo : ∀ j a, a ∈ fo' j → a ∈ fo j
  fs : ∀ j a, a ∈ fs' j → a ∈ fs j ∨ a ∈ s
theorem Put.refl {is : List Nat} {s : List Addr} : Put e e σ σ fo fs fo fs is s := ⟨rfl, fun _ _ => rfl, fun _ _ => rfl, rfl, fun _ _ => ⟨rfl, rfl⟩, fun _ _ h => h, fun _ _ h => .inl h⟩
theorem Put.trans {e1 e2 : En} {σ1 σ2 : L2.St} {fo1 fs1 fo2 fs2 : FP} {is js : List Nat} {s t : List Addr} (p : Put e e1 σ σ1 fo fs fo1 fs1 is s) (q : Put e1 e2 σ1 σ2 fo1 fs1 fo2 fs2 js t) : Put e e2 σ σ2 fo fs fo2 fs2 (is ++ js) (s ++ t) :=
  ⟨q.len.trans p.len, fun j hj => (q.slot j fun h => hj (inR j h)).trans (p.slot j fun h => hj (inL j h)), fun j hj => (q.env j fun h => hj (inR j h)).trans (p.env j fun h => hj (inL j h)), q.elen.trans p.elen, fun j hj => ⟨(q.same j fun h => hj (inR j h)).1.trans (p.same j fun h => hj (inL j h)).1, (q.same j fun h => hj (inR j h)).2.trans (p.same j fun h => hj (inL j h)).2⟩,
    fun j a h => p.fo j a (q.fo j a h), fun j a h => (q.fs j a h).elim (fun z => (p.fs j a z).imp id (List.mem_append_left _)) fun z => .inr (List.mem_append_right _ z)⟩
theorem Put.sub {e1 : En} {σ1 : L2.St} {fo1 fs1 : FP} {is : List Nat} {s t : List Addr} (p : Put e e1 σ σ1 fo fs fo1 fs1 is s) (h : ∀ a, a ∈ s → a ∈ t) : Put e e1 σ σ1 fo fs fo1 fs1 is t := ⟨p.len, p.slot, p.env, p.elen, p.same, p.fo, fun j a z => (p.fs j a z).imp id (h a)⟩
theorem Put.stp {e1 : En} {σ1 : L2.St} {fo1 fs1 : FP} {is : List Nat} {s : List Addr} (p : Put e e1 σ σ1 fo fs fo1 fs1 is s) : Stp is e e1 H H fo fs fo1 fs1 :=
  ⟨fun _ _ e _ _ => e, fun _ h => h, fun j a h => .inl (p.fo j a h), fun j hj a h => by rw [(p.same j hj).2] at h; exact .inl h, fun j hj a h => by rw [(p.same j hj).1, (p.same j hj).2]; exact h⟩
/-- what waits, over targets that take other things -/
theorem Own.put {e1 : En} {σ1 : L2.St} {fo1 fs1 : FP} {is : List Nat} {t : List Addr} {d : D} {n : Nat} {v : V} {o s : List Addr} (w : Own c H fo fs d n v o s) (p : Put e e1 σ σ1 fo fs fo1 fs1 is t) (h : ∀ a, a ∈ o → a ∉ t) : Own c H fo1 fs1 d n v o s :=
  ⟨w.ro, w.nd, w.os, fun a ha i => ⟨fun z => (w.of a ha i).1 (p.fo i a z), fun z => (p.fs i a z).elim (w.of a ha i).2 (h a ha)⟩, fun a ha i z => w.sf a ha i (p.fo i a z), w.so, w.ss⟩
theorem Sh.put {e1 : En} {σ1 : L2.St} {fo1 fs1 : FP} {is : List Nat} {t s : List Addr} (w : Sh c fo H0 fo0 fs0 s) (p : Put e e1 σ σ1 fo fs fo1 fs1 is t) : Sh c fo1 H0 fo0 fs0 s := fun a ha => ⟨fun j z => (w a ha).1 j (p.fo j a z), (w a ha).2⟩
theorem binds_len : ∀ (ps : List Pat) (ds : List D) (e e' : En), bindPs ps ds e = some e' → ds.length = ps.length
  | [], [], e, e', h => rfl
  | [], _ :: _, e, e', h => nomatch h
  | p :: ps, [], e, e', h => nomatch h
  | p :: ps, d :: ds, e, e', h => by
    have hb : (bindP p d e).bind (fun e1 => bindPs ps ds e1) = some e' := h
    cases h1 : bindP p d e with
    | none => rw [h1] at hb; cases hb
    | some em =>
      rw [h1] at hb
      rw [List.length_cons, List.length_cons, binds_len ps ds em e' hb]
mutual
/-- targets: a datum of any form -/
theorem bind_ok (hK : K = c.K) : ∀ (g : Pat) {e e' : En} {σ : L2.St} {fo fs : FP} {d : D} {v : V} {s : List Addr} {Q : L2.St → Hp → Prop}, bindP g d e = some e' → FR c e σ H fo fs → Step mu en0 e H0 H fo0 fs0 fo fs → (∀ i, i ∈ ptL g → i ∈ mu) → (∀ i, i ∈ ptL g → ∀ p ∈ c.iov, p.1 ≠ i) →
    RO c H d 0 v [] s → Sh c fo H0 fo0 fs0 s → (∀ σ' fo' fs', FR c e' σ' H fo' fs' → Step mu en0 e' H0 H fo0 fs0 fo' fs' → Put e e' σ σ' fo fs fo' fs' (ptL g) s → Q σ' H) → gPt K g v σ H Q
  | .nm i, e, e', σ, fo, fs, d, v, s, Q, hb, F, st, hm, hv, r, sh, k => by
    have hb : (if i < e.length then some (e.set i (some (d, 0))) else none) = some e' := hb
    split at hb
    · rename_i hl
      cases hb
      obtain ⟨F', st'⟩ := put_item F st (hm i (by simp [ptL])) hl (hv i (by simp [ptL])) r sh
      refine k _ _ _ F' st' ⟨by rw [List.length_set], fun j hj => ?_, fun j hj => ?_, by rw [List.length_set], fun j hj => ?_, fun j a ha => ?_, fun j a ha => ?_⟩
      · exact List.getElem?_set_ne (fun z => hj (by simp [ptL, z]))
      · exact List.getElem?_set_ne (fun z => hj (by simp [ptL, z]))
      · have hij : j ≠ i := fun z => hj (by simp [ptL, z])
        exact ⟨updF_ne hij, updF_ne hij⟩
      · by_cases hij : j = i
        · subst hij; rw [updF_same] at ha; cases ha
        · rw [updF_ne hij] at ha; exact ha
      · by_cases hij : j = i
        · subst hij; rw [updF_same] at ha; exact .inr ha
        · rw [updF_ne hij] at ha; exact .inl ha
    · cases hb
  | .tp ps, e, e', σ, fo, fs, .tuple ds, v, s, Q, hb, F, st, hm, hv, r, sh, k => by
    obtain ⟨a, vs, ev, hq, rr⟩ := r.tup_sq
    have hb : bindPs ps ds e = some e' := hb
    have hlen : ds.length = ps.length := binds_len ps ds e e' hb
    exact ⟨a, vs, ev, hK ▸ hq.1, by rw [← rr.len', hlen], binds_ok hK ps hb F st hm hv rr sh k⟩
  | .tp ps, e, e', σ, fo, fs, .none, v, s, Q, hb, _, _, _, _, _, _, _ => nomatch hb
  | .tp ps, e, e', σ, fo, fs, .bool _, v, s, Q, hb, _, _, _, _, _, _, _ => nomatch hb
  | .tp ps, e, e', σ, fo, fs, .int _, v, s, Q, hb, _, _, _, _, _, _, _ => nomatch hb
  | .tp ps, e, e', σ, fo, fs, .str _, v, s, Q, hb, _, _, _, _, _, _, _ => nomatch hb
  | .tp ps, e, e', σ, fo, fs, .list _, v, s, Q, hb, _, _, _, _, _, _, _ => nomatch hb
  | .tp ps, e, e', σ, fo, fs, .dict _, v, s, Q, hb, _, _, _, _, _, _, _ => nomatch hb
theorem binds_ok (hK : K = c.K) : ∀ (ps : List Pat) {e e' : En} {σ : L2.St} {fo fs : FP} {ds : List D} {vs : List V} {s : List Addr} {Q : L2.St → Hp → Prop}, bindPs ps ds e = some e' → FR c e σ H fo fs → Step mu en0 e H0 H fo0 fs0 fo fs → (∀ i, i ∈ ptLs ps → i ∈ mu) → (∀ i, i ∈ ptLs ps → ∀ p ∈ c.iov, p.1 ≠ i) →
    ROs c H ds 0 vs [] s → Sh c fo H0 fo0 fs0 s → (∀ σ' fo' fs', FR c e' σ' H fo' fs' → Step mu en0 e' H0 H fo0 fs0 fo' fs' → Put e e' σ σ' fo fs fo' fs' (ptLs ps) s → Q σ' H) → gPts K ps vs σ H Q
  | [], e, e', σ, fo, fs, [], vs, s, Q, hb, F, st, hm, hv, r, sh, k => by
    obtain ⟨ev, _, es⟩ := r.nil'
    have hb : some e = some e' := hb
    cases hb
    exact ⟨ev, k σ fo fs F st .refl⟩
  | [], e, e', σ, fo, fs, _ :: _, vs, s, Q, hb, _, _, _, _, _, _, _ => nomatch hb
  | p :: ps, e, e', σ, fo, fs, [], vs, s, Q, hb, _, _, _, _, _, _, _ => nomatch hb
  | p :: ps, e, e', σ, fo, fs, d :: ds, vs, s, Q, hb, F, st, hm, hv, r, sh, k => by
    obtain ⟨v, vs', o1, s1, o2, s2, ev, r1, r2, eo, es⟩ := r.cons'
    obtain ⟨e1, e2⟩ := List.append_eq_nil_iff.mp eo.symm
    subst e1 e2 es
    have hb : (bindP p d e).bind (fun e1 => bindPs ps ds e1) = some e' := hb
    cases h1 : bindP p d e with
    | none => rw [h1] at hb; cases hb
    | some em =>
      rw [h1] at hb
      have hb : bindPs ps ds em = some e' := hb
      refine ⟨v, vs', ev, bind_ok hK p h1 F st (fun i h => hm i (inL i h)) (fun i h => hv i (inL i h)) r1 (sh.sub fun a h => List.mem_append_left _ h) fun σ1 fo1 fs1 F1 st1 p1 => ?_⟩
      exact binds_ok hK ps hb F1 st1 (fun i h => hm i (inR i h)) (fun i h => hv i (inR i h)) r2 ((sh.sub fun a h => List.mem_append_right _ h).put p1) fun σ2 fo2 fs2 F2 st2 p2 => k σ2 fo2 fs2 F2 st2 (p1.trans p2)
end
end
end QQ
namespace QQ
open PySem L2 PyProof.Rows

/-! ### enumerate of a tuple -/
def IteT (K : PySem.W.Frag) (a : Addr) : L2.It where
  go := fun i H => ∃ (xs : List V) (x : V), SqT K H a xs ∧ xs[i]? = some x
  yld := fun i H v H' => ∃ p x, v = .ref p ∧ H p = none ∧ H' = upd H p (.tup [.int (i : Nat), x]) ∧ ∀ xs, SqT K H a xs → xs[i]? = some x
  stop := fun i H => ∃ xs : List V, SqT K H a xs ∧ xs.length = i
/-- what an enumerate over a tuple is made of -/
structure EnT (e it a : Addr) (i : Nat) (h : Heap) : Prop where
  en : ∃ old, IsEnum h e it ((i : Nat) : Int) old
  ti : h.IsTupleIter it a i
  ne : e ≠ it
theorem enT_apart {e it a : Addr} {i : Nat} {h : Heap} {ys : Array Value} (t : EnT e it a i h) (ht : h.IsTuple a ys) : a ≠ it ∧ e ≠ a := by
  obtain ⟨oa, ha, hca, na, hda⟩ := ht
  obtain ⟨ot, hot, hct, hdt⟩ := t.ti
  obtain ⟨old, he⟩ := t.en
  refine ⟨fun z => ?_, fun z => ?_⟩
  · rw [z, hot] at ha
    cases ha
    rw [hct] at hca
    exact absurd (Value.type.inj hca) (by decide)
  · rw [← z] at ha
    rw [show h.get? e = _ from he] at ha
    cases ha
    exact absurd (Value.type.inj hca) (by decide)
theorem turn_enT {P : Program} {w : World} {K : PySem.W.Frag} {ts : List Expr} {kk : Nat} {tp : Pos} (a e it : Addr) : Turn P w K (.Tuple ts kk tp) (IteT K a) [e, it] e (EnT e it a) where
  mem := List.mem_cons_self ..
  obj := fun i h t b hb => by
    obtain ⟨old, he⟩ := t.en
    obtain ⟨o, h1, h2, h3⟩ := t.ti
    rcases List.mem_cons.mp hb with rfl | hb
    · exact ⟨_, he, fun v z => nomatch z⟩
    · rw [List.mem_singleton.mp hb]; exact ⟨o, h1, fun v z => by rw [h3] at z; cases z⟩
  keep := fun i h h' t k => by
    obtain ⟨old, he⟩ := t.en
    exact ⟨⟨old, k e (List.mem_cons_self ..) _ he⟩, t.ti.at fun o z => k it (List.mem_cons_of_mem _ (List.mem_cons_self ..)) o z, t.ne⟩
  item := by
    intro X hP hw hK hc i pins s σ H E I hf t hg
    subst hP; subst hw; subst hK
    obtain ⟨xs, x, hq, hx⟩ := hg
    obtain ⟨old, he⟩ := t.en
    obtain ⟨ys, rv, p, hz⟩ := I.tuple hq
    have p : s.heap.IsTuple a ys.toArray := p
    obtain ⟨u0, hu0, ru0⟩ := rv.get hx
    obtain ⟨ap1, ap2⟩ := enT_apart t p
    have e_lt : e < s.heap.objs.size := Heap.lt_size he
    have it_lt : it < s.heap.objs.size := by obtain ⟨_, z, _⟩ := t.ti; exact Heap.lt_size z
    have hhd : X.A.in1.handled = none := I.ok.hd hc
    have hlt : i < ys.toArray.size := by
      have := (List.getElem?_eq_some_iff.mp hu0).1
      simpa using this
    refine wpAny_pyNext_enum_itemD (Draws.tuple hhd it a ap1 ys.toArray) he ⟨t.ti, p⟩ hlt t.ne (by simp [t.ne, ap2]) fun u h1 tk hu ho st1 hT hsz hk => ?_
    have hu : ys.toArray[i]? = some u := hu
    have eu : u0 = u := by
      have : ys[i]? = some u := by simpa using hu
      rw [hu0] at this
      exact Option.some.inj this
    subst eu
    refine ⟨_, rfl, wpAny_letOwnedTupleGo_enum (s := { s with heap := h1, toks := tk + 1 }) ho fun h2 he2 sb => ?_⟩
    have hT2 : h2.get? s.heap.objs.size = some { cls := .type "tuple", data := .seq #[.int i tk, u0] } := (sb.2 _ (Nat.ne_of_gt e_lt)).trans hT
    have new : ObjOk X.prog X.w (upd H s.heap.objs.size (.tup [.int (i : Nat), x])) h2 s.heap.objs.size (.tup [.int (i : Nat), x]) := by
      refine ⟨?_, [.int i tk, u0], .cons ⟨_, rfl⟩ (.cons ru0 .nil), ⟨_, hT2, rfl, _, rfl⟩⟩
      show 2 ≤ sizeLine
      decide
    have J : Inv X pins σ (upd H s.heap.objs.size (.tup [.int (i : Nat), x])) { s with heap := h2, toks := tk + 1 } := by
      refine I.turnedNew (ch := [e, it]) (fun b ob hb z => ?_) hf (Nat.le_refl _) new
      have n1 : b ≠ e := fun z => hb (z ▸ List.mem_cons_self ..)
      have n2 : b ≠ it := fun z => hb (z ▸ List.mem_cons_of_mem _ (List.mem_cons_self ..))
      exact (sb.2 b n1).trans (hk b ob n1 n2 z)
    refine ⟨.ref s.heap.objs.size, _, J, rfl, ⟨_, x, rfl, I.hok.fresh (Nat.le_refl _), rfl, fun zs hy => by rw [I.tuple_inj hy hq]; exact hx⟩, ⟨⟨u0, ?_⟩, ?_, t.ne⟩, fun b hb => ?_⟩
    · have e1 : ((i + 1 : Nat) : Int) = (i : Int) + 1 := Int.natCast_succ i
      rw [e1]
      exact he2
    · exact st1.1.at fun o z => (sb.2 it (Ne.symm t.ne)).trans z
    · have b_lt : b < s.heap.objs.size := by
        rcases List.mem_cons.mp hb with z | z
        · rw [z]; exact e_lt
        · rw [List.mem_singleton.mp z]; exact it_lt
      rw [upd_ne (Nat.ne_of_lt b_lt)]
      exact (hf b hb).1
  done := by
    intro X hP hw hK hc i pins s σ H E I hf t hg
    subst hP; subst hw; subst hK
    obtain ⟨xs, hq, hx⟩ := hg
    obtain ⟨old, he⟩ := t.en
    obtain ⟨ys, rv, p, hz⟩ := I.tuple hq
    have p : s.heap.IsTuple a ys.toArray := p
    obtain ⟨ap1, ap2⟩ := enT_apart t p
    obtain ⟨f0, f1, f2, f3, f4, f5⟩ := hf it (List.mem_cons_of_mem _ (List.mem_cons_self ..))
    have hhd : X.A.in1.handled = none := I.ok.hd hc
    have hl := rv.length
    have hn : ys.toArray.size = i := by simp; omega
    refine wpAny_pyNext_enum_endD (Draws.tuple hhd it a ap1 ys.toArray) he (by rw [hn]; exact ⟨t.ti, p⟩) fun h' eb => ?_
    exact ⟨rfl, I.turned (t' := s.toks) (fun b o hb z => eb b o hb z) f0 f1 f3 f4 f5⟩
  self := fun A i s Q E t h => by
    obtain ⟨old, he⟩ := t.en
    exact wpAny_pyIter_enum he h
/-- enumerate(t): its two new objects -/
theorem meets_en {v : Value} {o : Obj} {Hy : Heap → Prop} (B : Begins v o Hy) :
    Meets (Builtin.«enumerate.__new__» ⟨[.type "enumerate", v], []⟩) (fun _ R s => Hy s.heap ∧
      R (.ok (.ret (.ref (s.heap.push o).objs.size))) { s with heap := (s.heap.push o).push { cls := .type "enumerate", data := .fields #[.none, .bool false, .ref s.heap.objs.size, rawInt 0, .none, .none] } }) :=
  .of_wp fun prog w A R s hh => by
    obtain ⟨h0, gs, dr, tk, os⟩ := s
    obtain ⟨hy, hr⟩ := hh
    have hsub := sub_enumerate
    have it1 : ∀ {A' : Around} {E : Value → Shared → Prop} {Q : Value → Shared → Prop}, Q (.ref h0.objs.size) ⟨h0.push o, gs, dr, tk, os⟩ → wpAny (model prog w) A' (pyIter v) Q E ⟨h0, gs, dr, tk, os⟩ := fun q =>
      B.iter prog w _ _ ⟨h0, gs, dr, tk, os⟩ _ (B.keeps _ _ hy fun b o' z => z) q
    wp_walk using it1
    refine wpAny_stack_any fun st => wpAny_pure ?_
    split
    · rename_i cv _ _ _ _ _
      cases (cv == Value.type "enumerate") <;> (wp_walk using it1; exact ⟨_, rfl, hr⟩)
    · wp_walk using it1
      exact ⟨_, rfl, hr⟩
section
variable {M : Model} {A : Around} {E : Value → Shared → Prop} {s : Shared} {prog : Program} {w : World}
theorem call_en {v : Value} {o : Obj} {Hy : Heap → Prop} (B : Begins v o Hy) (hy : Hy s.heap) {Q : Value → Shared → Prop} (h : ∀ h', IsEnum h' (s.heap.objs.size + 1) s.heap.objs.size ((0 : Nat) : Int) .none → h'.get? s.heap.objs.size = some o → (∀ b ob, s.heap.get? b = some ob → h'.get? b = some ob) → Q (.ref (s.heap.objs.size + 1)) { s with heap := h' }) :
    wpAny (model prog w) A (call (.type "enumerate") [v]) Q E s := by
  refine callType_new F.called_enumerate (by decide) (F.typeCall_enumerate_1 _) (F.newCall_enumerate_1 _) (fun ob => F.args_object_init_2 ob _) F.entry_enumerate_new (meets_en B) ⟨hy, ?_⟩
  show _ ∧ _
  have hz : (s.heap.push o).objs.size = s.heap.objs.size + 1 := Heap.size_push ..
  rw [hz]
  have he : IsEnum ((s.heap.push o).push { cls := .type "enumerate", data := .fields #[.none, .bool false, .ref s.heap.objs.size, rawInt 0, .none, .none] }) (s.heap.objs.size + 1) s.heap.objs.size ((0 : Nat) : Int) .none := by
    have q := Heap.get?_push_size (s.heap.push o) (o := { cls := .type "enumerate", data := .fields #[.none, .bool false, .ref s.heap.objs.size, rawInt 0, .none, .none] }) rfl
    rw [hz] at q
    exact q
  exact ⟨⟨_, he, rfl⟩, h _ he (Heap.get?_push_of_some _ (Heap.get?_push_size _ B.free)) fun b ob z => Heap.get?_push_of_some _ (Heap.get?_push_of_some _ z)⟩
end
section
variable {X : Cx} {c : Cb} {W : WX} {C : Orc}
/-- enumerate(x), x a list or a tuple -/
theorem pi_enumA {e : Expr} {te : TE} {p pos tpos : Pos} {ts : List Expr} {kk : Nat} (hg : Gl X "enumerate") (hm : X.mg "enumerate" = none) (ha : PE X e te) (hs : noStar e = true) :
    PI X (.Tuple ts kk tpos) (.Call (.Name "enumerate" p) [e] [] pos) (fun σ H R => te σ H fun x H1 => ∃ a, x = .ref a ∧ (((∃ xs, SqL X.K H1 a xs) ∧ R (Ite X.K a) H1) ∨ ((∃ xs, SqT X.K H1 a xs) ∧ R (IteT X.K a) H1))) := by
  have hse : starEach [e] X.env = [(false, eval e X.env)] := star_cons hs [] X.env
  refine ⟨fun pins s σ H R I h => ?_⟩
  refine Call_ (ld_blt I hg hm boot_enumerate (PyProof.Rows.callWith_type1 ?_ hse rfl))
  rw [hse]
  refine Calls.spliced_cons (thn (ha.run pins s σ H _ I h) fun u s1 ⟨x, H1, I1, rx, a, ex, q⟩ => Calls.spliced_nil ?_)
  subst ex
  cases rx
  have young : ∀ b, b ∈ [s1.heap.objs.size + 1, s1.heap.objs.size] → s1.heap.objs.size ≤ b := fun b hb => by
    rcases List.mem_cons.mp hb with z | z
    · rw [z]; exact Nat.le_succ _
    · rw [List.mem_singleton.mp z]; exact Nat.le_refl _
  rcases q with ⟨⟨xs, hq⟩, q⟩ | ⟨⟨xs, hq⟩, q⟩
  · obtain ⟨its, rv, pl, hz⟩ := I1.list hq
    refine call_en (begins_list a its.toArray) pl.isList fun h' he ho hk => wpAny_pyIter_enum he ?_
    exact ⟨s1.heap.objs.size + 1, [s1.heap.objs.size + 1, s1.heap.objs.size], _, _, H1, rfl, I1.kept (t' := s1.toks) hk, turn_enum a (s1.heap.objs.size + 1) s1.heap.objs.size, ⟨⟨.none, he⟩, ⟨_, ho, rfl, rfl⟩, Nat.succ_ne_self _⟩, fun b hb => I1.fpOk (young b hb) (I1.hok.fresh (young b hb)), q⟩
  · obtain ⟨its, rv, pl, hz⟩ := I1.tuple hq
    refine call_en (begins_tuple a its.toArray) (show s1.heap.IsTuple a its.toArray from pl) fun h' he ho hk => wpAny_pyIter_enum he ?_
    exact ⟨s1.heap.objs.size + 1, [s1.heap.objs.size + 1, s1.heap.objs.size], _, _, H1, rfl, I1.kept (t' := s1.toks) hk, turn_enT a (s1.heap.objs.size + 1) s1.heap.objs.size, ⟨⟨.none, he⟩, ⟨_, ho, rfl, rfl⟩, Nat.succ_ne_self _⟩, fun b hb => I1.fpOk (young b hb) (I1.hok.fresh (young b hb)), q⟩
end
/-! ### stands -/
section
variable {c : Cb} {H0 H1 : Hp} {fo0 fs0 fo1 fs1 : FP} {e1 : En}
theorem enumD_get {xs : List D} {i : Nat} {x : D} (h : (enumD xs)[i]? = some x) : ∃ d, xs[i]? = some d ∧ x = .tuple [.int (i : Nat), d] := by
  have key : ∀ (n : Nat), n ≤ xs.length → (List.range n).filterMap (fun k => xs[k]?.map fun d => PyData.tuple [.int (k : Nat), d]) = (List.range n).map fun k => PyData.tuple [.int (k : Nat), xs[k]?.getD .none] := fun n hn => by
    induction n with
    | zero => rfl
    | succ n ih =>
      have hx := List.getElem?_eq_getElem (show n < xs.length by omega)
      rw [List.range_succ, List.filterMap_append, List.map_append, ih (by omega)]
      congr 1
      rw [List.filterMap_cons_some (b := PyData.tuple [.int (n : Nat), xs[n]?.getD .none]) (by rw [hx]; rfl)]
      rfl
  unfold enumD at h
  rw [key _ (Nat.le_refl _), List.getElem?_map] at h
  by_cases hi : i < xs.length
  · rw [List.getElem?_range hi] at h
    have hx := List.getElem?_eq_getElem hi
    have h : some (PyData.tuple [.int (i : Nat), xs[i]?.getD .none]) = some x := h
    rw [hx] at h
    exact ⟨xs[i], hx, (Option.some.inj h).symm⟩
  · rw [List.getElem?_eq_none (by simpa using hi)] at h
    cases h
theorem enumD_len {xs : List D} : (enumD xs).length = xs.length := by
  have key : ∀ (n : Nat), n ≤ xs.length → ((List.range n).filterMap (fun k => xs[k]?.map fun d => PyData.tuple [.int (k : Nat), d])).length = n := fun n hn => by
    induction n with
    | zero => rfl
    | succ n ih =>
      have hx := List.getElem?_eq_getElem (show n < xs.length by omega)
      rw [List.range_succ, List.filterMap_append, List.length_append, ih (by omega), List.filterMap_cons_some (b := PyData.tuple [.int (n : Nat), xs[n]]) (by rw [hx]; rfl)]
      rfl
  exact key _ (Nat.le_refl _)
/-- an item's pair with its place -/
theorem pair_en {H H' : Hp} {fo : FP} {mu2 : List Nat} {i : Nat} {d : D} {T : Addr} {x : V} (hT : H T = none) (e : H' = upd H T (.tup [.int (i : Nat), x])) (h : ItemAt c false H H fo H0 fo0 fs0 H1 fo1 mu2 d x) : ItemAt c true H H' fo H0 fo0 fs0 H1 fo1 mu2 (.tuple [.int (i : Nat), d]) (.ref T) := by
  rcases h with ⟨_, s, r, sh, bf⟩ | ⟨z, _⟩
  · exact .inr ⟨rfl, T, .int (i : Nat), d, .int (i : Nat), x, [], s, rfl, rfl, hT, e, by rw [RO]; exact ⟨rfl, rfl, rfl⟩, r, sh, bf⟩
  · cases z
theorem stand_enL {K : PySem.W.Frag} {a : Addr} {xs : List D} {roots : List Nat} (h : Stand c false (Itl K a) xs roots e1 H1 fo1 fs1 H0 fo0 fs0) : Stand c true (Ite K a) (enumD xs) roots e1 H1 fo1 fs1 H0 fo0 fs0 := by
  intro mu2 e2 H2 fo2 fs2 σ2 hr F2 st2
  obtain ⟨h1, h2⟩ := h mu2 e2 H2 fo2 fs2 σ2 hr F2 st2
  refine ⟨fun i y hy => ?_, by rw [enumD_len]; exact h2⟩
  obtain ⟨d, hd, rfl⟩ := enumD_get hy
  obtain ⟨g, k⟩ := h1 i d hd
  refine ⟨g, fun v H' hv => ?_⟩
  obtain ⟨T, x, rfl, hT, e, hx⟩ := hv
  exact pair_en hT e (k x H2 ⟨rfl, hx⟩)
theorem stand_enT {K : PySem.W.Frag} {a : Addr} {xs : List D} {roots : List Nat} (h : Stand c false (Itt K a) xs roots e1 H1 fo1 fs1 H0 fo0 fs0) (hl : ∀ mu2 e2 H2 fo2 fs2 σ2, (∀ i, i ∈ roots → i ∉ mu2) → FR c e2 σ2 H2 fo2 fs2 → Stp mu2 e1 e2 H1 H2 fo1 fs1 fo2 fs2 → ∃ vs, SqT K H2 a vs ∧ vs.length = xs.length) : Stand c true (IteT K a) (enumD xs) roots e1 H1 fo1 fs1 H0 fo0 fs0 := by
  intro mu2 e2 H2 fo2 fs2 σ2 hr F2 st2
  obtain ⟨h1, h2⟩ := h mu2 e2 H2 fo2 fs2 σ2 hr F2 st2
  refine ⟨fun i y hy => ?_, by rw [enumD_len]; exact hl mu2 e2 H2 fo2 fs2 σ2 hr F2 st2⟩
  obtain ⟨d, hd, rfl⟩ := enumD_get hy
  obtain ⟨g, k⟩ := h1 i d hd
  refine ⟨g, fun v H' hv => ?_⟩
  obtain ⟨T, x, rfl, hT, e, hx⟩ := hv
  exact pair_en hT e (k x H2 ⟨rfl, hx⟩)
end
section
variable {c : Cb} {mu : List Nat} {en e1 : En} {σ : L2.St} {H H1 : Hp} {fo fs fo1 fs1 : FP}
theorem stand_len {K : PySem.W.Frag} (hK : K = c.K) {r : D × Kd} {v : V} {o s : List Addr} {xs : List D} (t : TV c e1 σ H1 fo1 fs1 r v o s) (nw : New mu H fo fs o s) (F1 : FR c e1 σ H1 fo1 fs1) (st : Step mu en e1 H H1 fo fs fo1 fs1) (hx : itemsD r = some xs) {a : Addr} (ev : v = .ref a) (hT : ∃ ys, r.1 = .tuple ys) :
    ∀ mu2 e2 H2 fo2 fs2 σ2, (∀ i, i ∈ rootsOf r → i ∉ mu2) → FR c e2 σ2 H2 fo2 fs2 → Stp mu2 e1 e2 H1 H2 fo1 fs1 fo2 fs2 → ∃ vs, SqT K H2 a vs ∧ vs.length = xs.length := by
  subst hK
  intro mu2 e2 H2 fo2 fs2 σ2 hr F2 st2
  unfold itemsD at hx
  obtain ⟨d, k⟩ := r
  obtain ⟨ys, rfl⟩ := hT
  split at hx
  · rename_i hi
    cases hx
    obtain ⟨i, it, sh, bf⟩ := t.later nw F1 st hi hr F2 st2
    obtain ⟨a2, vs2, ev2, ha2, rr⟩ := it.tup
    rw [ev] at ev2
    cases ev2
    exact ⟨vs2, ha2.1, rr.len'.symm⟩
  · cases hx
/-- as stand_seq, told by what the value is -/
theorem stand_two {K : PySem.W.Frag} (hK : K = c.K) {r : D × Kd} {v : V} {o s : List Addr} {xs : List D} (t : TV c e1 σ H1 fo1 fs1 r v o s) (nw : New mu H fo fs o s) (F1 : FR c e1 σ H1 fo1 fs1) (st : Step mu en e1 H H1 fo fs fo1 fs1) (hx : itemsD r = some xs) :
    ∃ a, v = .ref a ∧ (((∃ ys, r.1 = .list ys) ∧ (∃ vs, SqL K H1 a vs) ∧ Stand c false (Itl K a) xs (rootsOf r) e1 H1 fo1 fs1 H fo fs) ∨ ((∃ ys, r.1 = .tuple ys) ∧ (∃ vs, SqT K H1 a vs) ∧ Stand c false (Itt K a) xs (rootsOf r) e1 H1 fo1 fs1 H fo fs)) := by
  subst hK
  unfold itemsD at hx
  split at hx
  · rename_i hi
    obtain ⟨d, k⟩ := r
    cases d with
    | list ys =>
      cases hx
      obtain ⟨s0, q0⟩ := t.read
      obtain ⟨a, vs, ev, ha, _⟩ := q0.list_sq
      refine ⟨a, ev, .inl ⟨⟨_, rfl⟩, ⟨vs, SqL.of ha⟩, fun mu2 e2 H2 fo2 fs2 σ2 hr F2 st2 => ?_⟩⟩
      obtain ⟨i, it, sh, bf⟩ := t.later nw F1 st hi hr F2 st2
      obtain ⟨a2, vs2, ev2, ha2, rr⟩ := it.list
      rw [ev] at ev2
      cases ev2
      refine ⟨fun j x hj => ?_, ⟨vs2, SqL.of ha2, by rw [rr.len']; exact Nat.le_refl _⟩⟩
      obtain ⟨w, s', h1, h2, h3⟩ := It.item rr hj
      refine ⟨⟨vs2, w, SqL.of ha2, h1⟩, fun v' H' ⟨eH, hy⟩ => .inl ⟨eH, s', ?_, sh.sub h3, fun a ha => bf a (h3 a ha)⟩⟩
      have := hy vs2 (SqL.of ha2)
      rw [h1] at this
      cases this
      exact h2
    | tuple ys =>
      cases hx
      obtain ⟨s0, q0⟩ := t.read
      obtain ⟨a, vs, ev, ha, _⟩ := q0.tup_sq
      refine ⟨a, ev, .inr ⟨⟨_, rfl⟩, ⟨vs, ha.1⟩, fun mu2 e2 H2 fo2 fs2 σ2 hr F2 st2 => ?_⟩⟩
      obtain ⟨i, it, sh, bf⟩ := t.later nw F1 st hi hr F2 st2
      obtain ⟨a2, vs2, ev2, ha2, rr⟩ := it.tup
      rw [ev] at ev2
      cases ev2
      refine ⟨fun j x hj => ?_, ⟨vs2, ha2.1, by rw [rr.len']; exact Nat.le_refl _⟩⟩
      obtain ⟨w, s', h1, h2, h3⟩ := It.item rr hj
      refine ⟨⟨vs2, w, ha2.1, h1⟩, fun v' H' ⟨eH, hy⟩ => .inl ⟨eH, s', ?_, sh.sub h3, fun a ha => bf a (h3 a ha)⟩⟩
      have := hy vs2 ha2.1
      rw [h1] at this
      cases this
      exact h2
    | none => cases hx
    | bool _ => cases hx
    | str _ => cases hx
    | int _ => cases hx
    | dict _ => cases hx
  · cases hx
end
section
variable {X : Cx} {c : Cb} {W : WX} {C : Orc}
theorem sem_itenum (G : Gd X c W) {e : Expr} {q : E} {p pos tpos : Pos} {ts : List Expr} {kk : Nat} (hg : Gl X "enumerate") (hm : X.mg "enumerate" = none) (he : PEq X c W C e q) (hs : noStar e = true) : PIq X c W C (.Tuple ts kk tpos) (.Call (.Name "enumerate" p) [e] [] pos) (.enum q) := by
  refine (pi_enumA hg hm he hs).imp fun σ H R h => ?_
  obtain ⟨en, fo, fs, F, hr⟩ := h
  have hr : Res c W σ (KI c true σ (muE q) en H fo fs R) ((ev C q en).bind fun r e1 => match itemsD r with
      | some xs => .ok (enumD xs, rootsOf r) e1
      | none => .stuck) := hr
  refine tE_seq F hr fun x e1 hx v H1 fo1 fs1 o s F1 st1 tx nx => ?_
  split at hx
  · rename_i xs hxs
    obtain ⟨a, ev, h⟩ := stand_two (K := X.K) G.hK tx nx F1 st1 hxs
    refine ⟨a, ev, h.imp (fun ⟨_, p, q⟩ => ⟨p, hx _ H1 fo1 fs1 F1 st1 (stand_enL q)⟩) fun ⟨hT, p, q⟩ => ⟨p, hx _ H1 fo1 fs1 F1 st1 (stand_enT q (stand_len (K := X.K) G.hK tx nx F1 st1 hxs ev hT))⟩⟩
  · exact hx.elim
theorem zipD_get {xs ys : List D} {i : Nat} {x : D} (h : (zipD xs ys)[i]? = some x) : ∃ d e, xs[i]? = some d ∧ ys[i]? = some e ∧ x = .tuple [d, e] := by
  unfold zipD at h
  rw [List.getElem?_map, Option.map_eq_some_iff] at h
  obtain ⟨⟨d, e⟩, h1, h2⟩ := h
  have h1 := List.getElem?_zip_eq_some.mp h1
  exact ⟨d, e, h1.1, h1.2, h2.symm⟩
theorem pair_zip {H0 H1 H H' : Hp} {fo0 fs0 fo fo1 : FP} {mu2 : List Nat} {d e : D} {T : Addr} {x y : V} (hT : H T = none) (eq : H' = upd H T (.tup [x, y])) (h : ItemAt c false H H fo H0 fo0 fs0 H1 fo1 mu2 d x) (k : ItemAt c false H H fo H0 fo0 fs0 H1 fo1 mu2 e y) : ItemAt c true H H' fo H0 fo0 fs0 H1 fo1 mu2 (.tuple [d, e]) (.ref T) := by
  rcases h with ⟨_, s, r, sh, bf⟩ | ⟨z, _⟩
  · rcases k with ⟨_, s2, r2, sh2, bf2⟩ | ⟨z, _⟩
    · exact .inr ⟨rfl, T, d, e, x, y, s, s2, rfl, rfl, hT, eq, r, r2, sh.app sh2, fun a ha => (List.mem_append.mp ha).elim (bf a) (bf2 a)⟩
    · cases z
  · cases z
theorem zip_stop {n m k l : Nat} {xs ys : List D} (h1 : k ≤ xs.length) (h2 : l ≤ ys.length) : k ≤ (zipD xs ys).length ∨ l ≤ (zipD xs ys).length := by
  have : (zipD xs ys).length = min xs.length ys.length := by unfold zipD; rw [List.length_map, List.length_zip]
  rw [this]
  rcases Nat.le_total xs.length ys.length with h | h
  · left; rw [Nat.min_eq_left h]; exact h1
  · right; rw [Nat.min_eq_right h]; exact h2
theorem stand_zipL {K : PySem.W.Frag} {H0 H1 : Hp} {fo0 fs0 fo1 fs1 : FP} {e1 : En} {a b : Addr} {xs ys : List D} {ra rb : List Nat} (h : Stand c false (Itl K a) xs ra e1 H1 fo1 fs1 H0 fo0 fs0) (k : Stand c false (Itl K b) ys rb e1 H1 fo1 fs1 H0 fo0 fs0) : Stand c true (Itz K a b) (zipD xs ys) (ra ++ rb) e1 H1 fo1 fs1 H0 fo0 fs0 := by
  intro mu2 e2 H2 fo2 fs2 σ2 hr F2 st2
  obtain ⟨h1, vs, hv, hl⟩ := h mu2 e2 H2 fo2 fs2 σ2 (fun i hi => hr i (List.mem_append_left _ hi)) F2 st2
  obtain ⟨k1, ws, kv, kl⟩ := k mu2 e2 H2 fo2 fs2 σ2 (fun i hi => hr i (List.mem_append_right _ hi)) F2 st2
  refine ⟨fun i z hz => ?_, vs, ws, hv, kv, zip_stop (n := 0) (m := 0) hl kl⟩
  obtain ⟨d, e, hd, he, rfl⟩ := zipD_get hz
  obtain ⟨⟨xs', x, q1, q2⟩, y1⟩ := h1 i d hd
  obtain ⟨⟨ys', y, q3, q4⟩, y2⟩ := k1 i e he
  refine ⟨⟨xs', ys', x, y, q1, q3, q2, q4⟩, fun v H' hv => ?_⟩
  obtain ⟨T, x', y', rfl, hT, eq, fx, fy⟩ := hv
  exact pair_zip hT eq (y1 x' H2 ⟨rfl, fx⟩) (y2 y' H2 ⟨rfl, fy⟩)
theorem stand_zipT {K : PySem.W.Frag} {H0 H1 : Hp} {fo0 fs0 fo1 fs1 : FP} {e1 : En} {a b : Addr} {xs ys : List D} {ra rb : List Nat} (h : Stand c false (Itt K a) xs ra e1 H1 fo1 fs1 H0 fo0 fs0) (k : Stand c false (Itt K b) ys rb e1 H1 fo1 fs1 H0 fo0 fs0) : Stand c true (RZ.ItzT K a b) (zipD xs ys) (ra ++ rb) e1 H1 fo1 fs1 H0 fo0 fs0 := by
  intro mu2 e2 H2 fo2 fs2 σ2 hr F2 st2
  obtain ⟨h1, vs, hv, hl⟩ := h mu2 e2 H2 fo2 fs2 σ2 (fun i hi => hr i (List.mem_append_left _ hi)) F2 st2
  obtain ⟨k1, ws, kv, kl⟩ := k mu2 e2 H2 fo2 fs2 σ2 (fun i hi => hr i (List.mem_append_right _ hi)) F2 st2
  refine ⟨fun i z hz => ?_, vs, ws, hv, kv, zip_stop (n := 0) (m := 0) hl kl⟩
  obtain ⟨d, e, hd, he, rfl⟩ := zipD_get hz
  obtain ⟨⟨xs', x, q1, q2⟩, y1⟩ := h1 i d hd
  obtain ⟨⟨ys', y, q3, q4⟩, y2⟩ := k1 i e he
  refine ⟨⟨xs', ys', x, y, q1, q3, q2, q4⟩, fun v H' hv => ?_⟩
  obtain ⟨T, x', y', rfl, hT, eq, fx, fy⟩ := hv
  exact pair_zip hT eq (y1 x' H2 ⟨rfl, fx⟩) (y2 y' H2 ⟨rfl, fy⟩)
theorem sem_itzip (G : Gd X c W) {a b : Expr} {qa qb : E} {p pos tpos : Pos} {ts : List Expr} {kk : Nat} (hg : Gl X "zip") (hm : X.mg "zip" = none) (ha : PEq X c W C a qa) (hb : PEq X c W C b qb) (hs : noStar a = true) (hs2 : noStar b = true) : PIq X c W C (.Tuple ts kk tpos) (.Call (.Name "zip" p) [a, b] [] pos) (.zip qa qb) := by
  have hp : PA X [a, b] (tCons (tE c W (muE qa) (ev C qa)) (tCons (tE c W (muE qb) (ev C qb)) tNil)) := pa_cons ha (pa_cons hb pa_nil (star_cons hs2 _ _)) (star_cons hs _ _)
  have sb : noStars [b] = true := by show (noStar b && true) = true; rw [hs2]; rfl
  refine (RZ.pi_zipA hg hm hp (star_cons hs _ _) (star_any sb _ _)).imp fun σ H R h => ?_
  obtain ⟨en, fo, fs, F, hr⟩ := h
  have hr : Res c W σ (KI c true σ (muE qa ++ muE qb) en H fo fs R) ((ev C qa en).bind fun x e1 => (ev C qb e1).bind fun y e2 => if pend x (muE qb) && sameSq x.1 y.1 then match itemsD x, itemsD y with
      | some xs, some ys => .ok (zipD xs ys, rootsOf x ++ rootsOf y) e2
      | _, _ => .stuck
    else .stuck) := hr
  refine tE_seq F hr fun x e1 hx v H1 fo1 fs1 o s F1 st1 tx nx => ?_
  refine tE_seq F1 hx fun y e2 hy w H2 fo2 fs2 o2 s2 F2 st2 ty ny => ?_
  split at hy
  · rename_i hpd
    rw [Bool.and_eq_true] at hpd
    cases h1 : itemsD x with
    | none => rw [h1] at hy; exact hy.elim
    | some xs =>
      cases h2 : itemsD y with
      | none => rw [h1, h2] at hy; exact hy.elim
      | some ys =>
        rw [h1, h2] at hy
        have st := st1.seq st2
        have tx2 := tx.carry F1 st2 hpd.1
        have nx2 := nx.mono (mu' := muE qa ++ muE qb) inL
        have ny2 := (ny.mono (mu' := muE qa ++ muE qb) inR).back st1 inL
        obtain ⟨p1, e1', k1⟩ := stand_two (K := X.K) G.hK tx2 nx2 F2 st h1
        obtain ⟨p2, e2', k2⟩ := stand_two (K := X.K) G.hK ty ny2 F2 st h2
        have same := hpd.2
        subst e1' e2'
        rcases k1 with ⟨⟨l1, q1⟩, ⟨vs1, s1'⟩, g1⟩ | ⟨⟨l1, q1⟩, ⟨vs1, s1'⟩, g1⟩
        · rcases k2 with ⟨⟨l2, q2⟩, ⟨vs2, s2'⟩, g2⟩ | ⟨⟨l2, q2⟩, ⟨vs2, s2'⟩, g2⟩
          · exact ⟨p1, p2, vs1, vs2, rfl, .inl ⟨s1', s2', hy _ H2 fo2 fs2 F2 st (stand_zipL g1 g2)⟩⟩
          · rw [q1, q2] at same; cases same
        · rcases k2 with ⟨⟨l2, q2⟩, ⟨vs2, s2'⟩, g2⟩ | ⟨⟨l2, q2⟩, ⟨vs2, s2'⟩, g2⟩
          · rw [q1, q2] at same; cases same
          · exact ⟨p1, p2, vs1, vs2, rfl, .inr ⟨s1', s2', hy _ H2 fo2 fs2 F2 st (stand_zipT g1 g2)⟩⟩
  · exact hy.elim
end
end QQ
namespace QQ
open PySem L2

section
variable {c : Cb} {en0 e e1 : En} {σ : L2.St} {H0 H H1 : Hp} {fo0 fs0 fo fs fo1 fs1 : FP} {mu : List Nat}
/-! ### a list that no slot holds is written -/
theorem FR.freeWrite (F : FR c e σ H fo fs) {a : Addr} {vs ws : List V} (ha : H a = some (.lst vs)) (hf : ∀ i, a ∉ fo i ∧ a ∉ fs i) (hs : Src c a) : FR c e σ (upd H a (.lst ws)) fo fs where
  len := F.len
  rel := fun i d n h => by
    obtain ⟨v, h1, h2⟩ := F.rel i d n h
    refine ⟨v, h1, RO.stab d n v _ _ h2 (stab_write ha fun z => ?_)⟩
    rcases List.mem_append.mp z with z | z
    · exact (hf i).1 z
    · exact (hf i).2 z
  emp := F.emp
  nd := F.nd
  dj := F.dj
  so := F.so
  ss := F.ss
  kp := fun b x e0 h t => by
    have hb : b ≠ a := fun z => by
      subst z
      rcases hs with q | q
      · rw [e0] at q; cases q
      · exact h q
    rw [upd_ne hb]; exact F.kp b x e0 h t
  dm := fun b h => by
    by_cases hb : b = a
    · subst hb; rw [upd_same]; simp
    · rw [upd_ne hb]; exact F.dm b h
  iov := F.iov
  tb := tabs_keep F.tb fun b x e0 h => by
    have hb : b ≠ a := fun z => by subst z; rw [ha] at e0; cases e0; exact h _ rfl
    rw [upd_ne hb]; exact e0
theorem Step.freeWrite (st : Step mu en0 e H0 H fo0 fs0 fo fs) {a : Addr} {x : HO} (ha : H0 a = none) : Step mu en0 e H0 (upd H a x) fo0 fs0 fo fs :=
  ⟨fun b y e t k => by rw [upd_ne (ne_of_none e ha)]; exact st.keep b y e t k, fun b h => by
      by_cases hb : b = a
      · subst hb; rw [upd_same]; simp
      · rw [upd_ne hb]; exact st.dom b h, st.oo, st.ss, st.val, st.all, st.dep⟩
theorem Stp.freeWrite (st : Stp mu en0 e H0 H fo0 fs0 fo fs) {a : Addr} {x : HO} (ha : H0 a = none) : Stp mu en0 e H0 (upd H a x) fo0 fs0 fo fs :=
  ⟨fun b y e t k => by rw [upd_ne (ne_of_none e ha)]; exact st.keep b y e t k, fun b h => by
      by_cases hb : b = a
      · subst hb; rw [upd_same]; simp
      · rw [upd_ne hb]; exact st.dom b h, st.oo, st.ss, st.all⟩
/-- an item more -/
theorem Own.snoc {acc : List D} {n : Nat} {a : Addr} {o s : List Addr} (w : Own c H fo fs (.list acc) (n + 1) (.ref a) o s) {d : D} {v : V} {oy sy : List Addr} (y : Own c H fo fs d n v oy sy) (ap1 : ∀ b, b ∈ o → b ∉ oy ∧ b ∉ sy) (ap2 : ∀ b, b ∈ s → b ∉ oy) :
    ∃ vs, H a = some (.lst vs) ∧ vs.length = acc.length ∧ a ∈ o ∧ Own c (upd H a (.lst (vs ++ [v]))) fo fs (.list (acc ++ [d])) (n + 1) (.ref a) (o ++ oy) (s ++ sy) := by
  have r := w.ro
  rw [RO] at r
  obtain ⟨a', vs, ea, ha, o', rr, eo⟩ := r
  cases ea
  have am : a ∈ o := by rw [eo]; exact List.mem_cons_self ..
  have ndo := w.nd
  rw [eo] at ndo
  refine ⟨vs, ha, rr.len'.symm, am, ?_⟩
  have r2 : ROs c H (acc ++ [d]) n (vs ++ [v]) (o' ++ oy) (s ++ sy) := by
    have := ROs.app _ _ _ _ _ _ _ _ _ rr (ROs.mkCons y.ro .mkNil)
    rw [List.append_nil, List.append_nil] at this
    exact this
  refine ⟨?_, ?_, ?_, ?_, ?_, ?_, ?_⟩
  · rw [RO]
    refine ⟨a, vs ++ [v], rfl, upd_same, o' ++ oy, ROs.stab _ n _ _ _ r2 (stab_write ha fun z => ?_), by rw [eo]; rfl⟩
    simp only [List.mem_append] at z
    rcases z with (z | z) | z | z
    · exact (List.nodup_cons.mp ndo).1 z
    · exact (ap1 a am).1 z
    · exact w.os a am z
    · exact (ap1 a am).2 z
  · exact List.nodup_append.mpr ⟨w.nd, y.nd, fun b hb b' hb' e => by subst e; exact (ap1 b hb).1 hb'⟩
  · intro b hb z
    rcases List.mem_append.mp hb with hb | hb <;> rcases List.mem_append.mp z with z | z
    · exact w.os b hb z
    · exact (ap1 b hb).2 z
    · exact ap2 b z hb
    · exact y.os b hb z
  · exact fun b hb => (List.mem_append.mp hb).elim (w.of b) (y.of b)
  · exact fun b hb => (List.mem_append.mp hb).elim (w.sf b) (y.sf b)
  · exact fun b hb => (List.mem_append.mp hb).elim (w.so b) (y.so b)
  · exact fun b hb => (List.mem_append.mp hb).elim (w.ss b) (y.ss b)
/-! ### the names of a block are forgotten -/
def clrF (f : FP) : List Nat → FP
  | [] => f
  | i :: is => updF (clrF f is) i []
theorem clrF_sub {f : FP} : ∀ {is : List Nat} {j : Nat} {a : Addr}, a ∈ clrF f is j → a ∈ f j ∧ j ∉ is
  | [], _, _, h => ⟨h, by simp⟩
  | i :: is, j, a, h => by
    have h : a ∈ updF (clrF f is) i [] j := h
    by_cases hj : j = i
    · subst hj; rw [updF_same] at h; cases h
    · rw [updF_ne hj] at h
      obtain ⟨h1, h2⟩ := clrF_sub h
      exact ⟨h1, by simp [hj, h2]⟩
theorem clrF_out {f : FP} : ∀ {is : List Nat} {j : Nat}, j ∉ is → clrF f is j = f j
  | [], _, _ => rfl
  | i :: is, j, h => by
    have h' := notCons h
    show updF (clrF f is) i [] j = f j
    rw [updF_ne h'.1, clrF_out h'.2]
theorem wipeE_len (e : En) : ∀ is : List Nat, (wipeE e is).length = e.length
  | [] => rfl
  | i :: is => by unfold wipeE; rw [List.length_set, wipeE_len e is]
theorem wipeE_out {e : En} : ∀ {is : List Nat} {j : Nat}, j ∉ is → (wipeE e is)[j]? = e[j]?
  | [], _, _ => rfl
  | i :: is, j, h => by
    have h' := notCons h
    unfold wipeE
    rw [List.getElem?_set_ne (Ne.symm h'.1), wipeE_out h'.2]
theorem wipeE_in {e : En} : ∀ {is : List Nat} {j : Nat}, j ∈ is → ∀ p, (wipeE e is)[j]? ≠ some (some p)
  | i :: is, j, h, p, z => by
    unfold wipeE at z
    by_cases hj : j = i
    · subst hj
      by_cases hl : j < (wipeE e is).length
      · rw [List.getElem?_set_self hl] at z; cases z
      · rw [List.getElem?_eq_none (by rw [List.length_set]; omega)] at z; cases z
    · rw [List.getElem?_set_ne (Ne.symm hj)] at z
      exact wipeE_in (by simpa [hj] using h) p z
theorem FR.clears (F : FR c e σ H fo fs) : ∀ is : List Nat, FR c (wipeE e is) σ H (clrF fo is) (clrF fs is)
  | [] => F
  | i :: is => (F.clears is).clear i
theorem clears_step : ∀ is : List Nat, Step is e (wipeE e is) H H fo fs (clrF fo is) (clrF fs is)
  | [] => .refl
  | i :: is => ((clears_step is).mono fun _ h => List.mem_cons_of_mem _ h).trans ((clear_step i).mono fun j hj => by rw [List.mem_singleton.mp hj]; exact List.mem_cons_self ..)
theorem FR.wipe {is : List Nat} (F : FR c e σ H fo fs) (hn : ∀ i, i ∈ is → ∀ p, e[i]? ≠ some (some p)) (hv : ∀ i, i ∈ is → ∀ p ∈ c.iov, p.1 ≠ i) : FR c e (L2.wipe σ is) H fo fs :=
  F.sigma (wipe_length σ is) (fun i p h => wipe_out fun z => hn i z p h) fun p hp => wipe_out fun z => hv _ z p hp rfl
theorem FR.unwipe {is : List Nat} (F : FR c e (L2.wipe σ is) H fo fs) (hn : ∀ i, i ∈ is → ∀ p, e[i]? ≠ some (some p)) (hv : ∀ i, i ∈ is → ∀ p ∈ c.iov, p.1 ≠ i) : FR c e σ H fo fs :=
  F.sigma (wipe_length σ is).symm (fun i p h => (wipe_out fun z => hn i z p h).symm) fun p hp => (wipe_out fun z => hv _ z p hp rfl).symm
end
/-- an item comes: the targets take it -/
theorem item_ok {K : PySem.W.Frag} {c : Cb} {en0 e e' : En} {σ : L2.St} {H0 H H' H1 : Hp} {fo0 fs0 fo fs fo1 : FP} {mu mu2 : List Nat} (hK : K = c.K) {g : Pat} {d : D} {v : V} {Q : L2.St → Hp → Prop} {pr : Bool} (it : ItemAt c pr H H' fo H0 fo0 fs0 H1 fo1 mu2 d v)
    (hg : pr = false ∨ ∃ ps, g = .tp ps) (hb : bindP g d e = some e') (F : FR c e σ H fo fs) (st : Step mu en0 e H0 H fo0 fs0 fo fs) (hm : ∀ i, i ∈ ptL g → i ∈ mu) (hv : ∀ i, i ∈ ptL g → ∀ p ∈ c.iov, p.1 ≠ i)
    (k : ∀ σ' fo' fs' s, FR c e' σ' H' fo' fs' → Step mu en0 e' H0 H' fo0 fs0 fo' fs' → Put e e' σ σ' fo fs fo' fs' (ptL g) s → Bf H1 fo1 mu2 s → Step [] e e H H' fo fs fo fs → Q σ' H') : gPt K g v σ H' Q := by
  rcases it with ⟨eH, s, r, sh, bf⟩ | ⟨hpr, T, d1, d2, w1, w2, s1, s2, ed, ev, nT, eH, r1, r2, sh, bf⟩
  · subst eH
    exact bind_ok hK g hb F st hm hv r sh fun σ' fo' fs' F' st' p => k σ' fo' fs' s F' st' p bf .refl
  · rcases hg with hg | ⟨ps, hg⟩
    · rw [hg] at hpr; cases hpr
    · subst hg ed ev eH
      have hb : bindPs ps [d1, d2] e = some e' := hb
      have hlen := binds_len ps _ e e' hb
      refine ⟨T, [w1, w2], rfl, SqT.of upd_same, hlen, ?_⟩
      have rr : ROs c (upd H T (.tup [w1, w2])) [d1, d2] 0 [w1, w2] [] (s1 ++ s2) := by
        have := ROs.mkCons (r1.laid (x := .tup [w1, w2]) nT) (ROs.mkCons (r2.laid (x := .tup [w1, w2]) nT) ROs.mkNil)
        simp only [List.append_nil] at this
        exact this
      exact binds_ok hK ps hb (F.laid nT) (st.trans (Step.laid nT)) hm hv rr sh fun σ' fo' fs' F' st' p => k σ' fo' fs' _ F' st' p bf (Step.laid nT)
section
variable {X : Cx} {c : Cb} {W : WX} {C : Orc}
theorem Res_ok {α : Type} {W : WX} {σ : L2.St} {K : α → En → Prop} {a : α} {e : En} : Res c W σ K (.ok a e) ↔ K a e := Iff.rfl
abbrev Wf : WX := fun _ _ _ _ => False
theorem evAnd1_one (e : E) (en : En) : evAnd1 C (.cons e .nil) en = evB C e en := by
  show ((ev C e en).bind fun x e1 => match x.1 with
      | .bool true => .ok true e1
      | .bool false => .ok false e1
      | _ => .stuck) = ((ev C e en).bind fun x e1 => match x.1 with
      | .bool b => .ok b e1
      | _ => .stuck)
  congr 1
  funext x e1
  split
  · rename_i h; rw [h]
  · rename_i h; rw [h]
  · rename_i h1 h2
    split
    · rename_i b hb
      cases b with
      | true => exact absurd hb h1
      | false => exact absurd hb h2
    · rfl
theorem sem_ts0 : PTs X [] (tTs c W (muL .nil) (fun e => evAnd1 C .nil e)) := by
  refine ⟨fun pins s σ H Q I h => ?_⟩
  obtain ⟨en, fo, fs, F, k⟩ := h
  exact pts_nil.run pins s σ H Q I (k H fo fs F .refl)
theorem sem_ts1 {e : Expr} {q : E} (h : PTq X c W C e q) : PTs X [e] (tTs c W (muL (.cons q .nil)) (fun e => evAnd1 C (.cons q .nil) e)) := by
  have h2 : PT X e (tTs c W (muL (.cons q .nil)) (fun e => evAnd1 C (.cons q .nil) e)) := h.imp fun σ H Q hr => by
    obtain ⟨en, fo, fs, F, k⟩ := hr
    refine ⟨en, fo, fs, F, ?_⟩
    have k : Res c W σ (KT c σ (muL (.cons q .nil)) en H fo fs Q) (evAnd1 C (.cons q .nil) en) := k
    rw [evAnd1_one] at k
    exact k.imp fun b e k H' fo' fs' F' st => k H' fo' fs' F' (st.mono inL)
  exact pts_one h2
/-- a comprehension's turn, as it must go -/
theorem lc_turn {W : WX} {σ : L2.St} {K : List D → En → Prop} {k : Nat} {g : Pat} {ts : En → Out Bool} {el : En → Out (D × Kd)} {own : List Nat} {d : D} {ds acc : List D} {e : En} (h : Res c W σ K (lcL (lcT k g ts el) own (d :: ds) acc e)) :
    ∃ e', bindP g d e = some e' ∧ ∀ W2 σ2, Res c W2 σ2 (fun b eb => if b = true then Res c W2 σ2 (fun v e3 => keepItem k v = true ∧ (keepK v).isSome = true ∧ acc.length < LIM ∧ Res c W σ K (lcL (lcT k g ts el) own ds (acc ++ [v.1]) (wipeE e3 own))) (el eb)
      else Res c W σ K (lcL (lcT k g ts el) own ds acc (wipeE eb own))) (ts e') := by
  have h : Res c W σ K (match lcT k g ts el d e with
    | .ok (some v) e1 => if acc.length < LIM then lcL (lcT k g ts el) own ds (acc ++ [v]) (wipeE e1 own) else .stuck
    | .ok none e1 => lcL (lcT k g ts el) own ds acc (wipeE e1 own)
    | _ => .stuck) := h
  unfold lcT at h
  cases hb : bindP g d e with
  | none => rw [hb] at h; exact h.elim
  | some e' =>
    rw [hb] at h
    refine ⟨e', rfl, fun W2 σ2 => ?_⟩
    have h : Res c W σ K (match (ts e').bind fun b e2 => if b then (el e2).bind fun v e3 => if keepItem k v && (keepK v).isSome then .ok (some v.1) e3 else .stuck else .ok none e2 with
      | .ok (some v) e1 => if acc.length < LIM then lcL (lcT k g ts el) own ds (acc ++ [v]) (wipeE e1 own) else .stuck
      | .ok none e1 => lcL (lcT k g ts el) own ds acc (wipeE e1 own)
      | _ => .stuck) := h
    cases ht : ts e' with
    | stuck => rw [ht] at h; exact h.elim
    | exc x e1 => rw [ht] at h; exact h.elim
    | ok b eb =>
      rw [ht, Out.bind_ok] at h
      cases b with
      | false => exact h
      | true =>
        refine Res_ok.mpr (cast (if_pos rfl).symm ?_)
        rw [if_pos rfl] at h
        cases hl : el eb with
        | stuck => rw [hl] at h; exact h.elim
        | exc x e1 => rw [hl] at h; exact h.elim
        | ok v e3 =>
          rw [hl, Out.bind_ok] at h
          cases hk : keepItem k v && (keepK v).isSome with
          | false => rw [hk] at h; exact h.elim
          | true =>
            rw [hk, if_pos rfl] at h
            rw [Bool.and_eq_true] at hk
            have h : Res c W σ K (if acc.length < LIM then lcL (lcT k g ts el) own ds (acc ++ [v.1]) (wipeE e3 own) else .stuck) := h
            split at h
            · rename_i hz
              exact ⟨hk.1, hk.2, hz, h⟩
            · exact h.elim
theorem wipe_in {σ : L2.St} : ∀ {vs : List Nat} {j : Nat}, j ∈ vs → (L2.wipe σ vs)[j]? = if j < σ.length then some none else none
  | i :: is, j, h => by
    show ((L2.wipe σ is).set i none)[j]? = _
    by_cases hj : j = i
    · subst hj
      by_cases hl : j < σ.length
      · rw [List.getElem?_set_self (by rw [wipe_length]; exact hl), if_pos hl]
      · rw [List.getElem?_eq_none (by rw [List.length_set, wipe_length]; omega), if_neg hl]
    · rw [List.getElem?_set_ne (Ne.symm hj)]
      exact wipe_in (by simpa [hj] using h)
theorem wipe_same {σ τ : L2.St} {vs : List Nat} (hl : τ.length = σ.length) (h : ∀ j : Nat, j ∉ vs → τ[j]? = (L2.wipe σ vs)[j]?) : L2.wipe τ vs = L2.wipe σ vs := by
  apply List.ext_getElem?
  intro j
  by_cases hj : j ∈ vs
  · rw [wipe_in hj, wipe_in hj, hl]
  · rw [wipe_out hj, h j hj]
/-- a value to the depth n -/
theorem TV.keptD {en1 : En} {σ : L2.St} {H H1 : Hp} {fo fs fo1 fs1 : FP} {mu : List Nat} {n : Nat} {r : D × Kd} {v : V} {o s : List Addr} (t : TV c en1 σ H1 fo1 fs1 r v o s) (nw : New mu H fo fs o s) (h : depOk n r = true) : ∃ o' s', Own c H1 fo1 fs1 r.1 n v o' s' ∧ New mu H fo fs o' s' := by
  by_cases hl : QQ.lf r.1 = true
  · exact ⟨[], [], t.lf hl n, .nil⟩
  · obtain ⟨d, kd⟩ := r
    unfold depOk at h
    rw [Bool.or_eq_true] at h
    rcases h with h | h
    · exact absurd h hl
    · cases kd with
      | root i m w => cases h
      | own m =>
        obtain ⟨o', s', w, n1, _, _⟩ := Own.weak t (of_decide_eq_true h) nw
        exact ⟨o', s', w, n1⟩
theorem lc_read (G : Gd X c W) {k : Nat} {g : Pat} {qi : QQ.IT} {qs : EL} {qe : E} {vs : List Nat} {σ : L2.St} {H : Hp} {Q : VK}
    (hpt : ∀ i, i ∈ ptL g → i ∈ vs) (hv : ∀ i, i ∈ vs → ∀ p ∈ c.iov, p.1 ≠ i) (hgt : isPair qi = false ∨ ∃ ps, g = .tp ps) (h : tE c W (muE (.lc k vs g qi qs qe)) (ev C (.lc k vs g qi qs qe)) σ H Q) :
    tLc (tIt c (isPair qi) W (muI qi) (evI C qi)) (gPt X.K g) (tTs c Wf (muL qs) (fun e => evAnd1 C qs e)) (tE c Wf (muE qe) (ev C qe)) vs σ H Q := by
  obtain ⟨en, fo, fs, F, hr⟩ := h
  have hr : Res c W σ (KE c σ (muI qi ++ vs ++ muL qs ++ muE qe) en H fo fs Q) ((evI C qi en).bind fun r e1 => if (r.2.all fun i => !(vs ++ muL qs ++ muE qe).contains i) then
      (lcL (lcT k g (fun e => evAnd1 C qs e) (fun e => ev C qe e)) vs r.1 [] (wipeE e1 vs)).bind fun ds e2 => .ok (.list ds, .own k) e2
    else .stuck) := hr
  refine ⟨en, fo, fs, F, ?_⟩
  cases hev : evI C qi en with
  | stuck => rw [hev] at hr; exact hr
  | exc x e1 => rw [hev] at hr; exact hr
  | ok r e1 =>
    rw [hev, Out.bind_ok] at hr
    intro J H1 fo1 fs1 F1 st1 stand D hD
    split at hr
    · rename_i hroots
      have hro : ∀ i, i ∈ r.2 → i ∉ vs ++ muL qs ++ muE qe := fun i hi => by
        have := List.all_eq_true.mp hroots i hi
        simpa using this
      have hD0 : H D = none := st1.new hD
      have mI : ∀ i, i ∈ muI qi → i ∈ muI qi ++ vs ++ muL qs ++ muE qe := fun i h => inL i (inL i (inL i h))
      have mM : ∀ i, i ∈ vs ++ muL qs ++ muE qe → i ∈ muI qi ++ vs ++ muL qs ++ muE qe := fun i h => by
        simp only [List.mem_append] at h ⊢
        rcases h with (h | h) | h
        · exact .inl (.inl (.inr h))
        · exact .inl (.inr h)
        · exact .inr h
      have mV : ∀ i, i ∈ vs → i ∈ vs ++ muL qs ++ muE qe := fun i h => inL i (inL i h)
      have mT : ∀ i, i ∈ muL qs → i ∈ vs ++ muL qs ++ muE qe := fun i h => inL i (inR i h)
      have mE : ∀ i, i ∈ muE qe → i ∈ vs ++ muL qs ++ muE qe := fun i h => inR i h
      have hr' : Res c W σ (fun ds e3 => KE c σ (muI qi ++ vs ++ muL qs ++ muE qe) en H fo fs Q (.list ds, .own k) e3) (lcL (lcT k g (fun e => evAnd1 C qs e) (fun e => ev C qe e)) vs r.1 [] (wipeE e1 vs)) := by
        cases hq : lcL (lcT k g (fun e => evAnd1 C qs e) (fun e => ev C qe e)) vs r.1 [] (wipeE e1 vs) with
        | stuck => rw [hq] at hr; exact hr
        | exc x e => rw [hq] at hr; exact hr
        | ok ds e => rw [hq] at hr; exact hr
      clear hr
      have w : Walk J r.1.length (fun H2 => ∃ e2 fo2 fs2 σ2, FR c e2 σ2 H2 fo2 fs2 ∧ Stp (vs ++ muL qs ++ muE qe) e1 e2 H1 H2 fo1 fs1 fo2 fs2) (fun i H2 x H' => J.yld i H2 x H') :=
        ⟨fun i H2 hi ⟨e2, fo2, fs2, σ2, F2, s2⟩ => ((stand _ e2 H2 fo2 fs2 σ2 hro F2 s2).1 i _ (List.getElem?_eq_getElem hi)).1, fun H2 ⟨e2, fo2, fs2, σ2, F2, s2⟩ => (stand _ e2 H2 fo2 fs2 σ2 hro F2 s2).2, fun _ _ _ _ _ _ y => y⟩
      refine lc_it w (fun i H2 => ∃ e2 fo2 fs2 acc o s, FR c e2 (L2.wipe σ vs) H2 fo2 fs2 ∧ Step (muI qi ++ vs ++ muL qs ++ muE qe) en e2 H H2 fo fs fo2 fs2 ∧ Stp (vs ++ muL qs ++ muE qe) e1 e2 H1 H2 fo1 fs1 fo2 fs2 ∧
        Own c H2 fo2 fs2 (.list acc) (k - 1 + 1) (.ref D) o s ∧ New (muI qi ++ vs ++ muL qs ++ muE qe) H fo fs o s ∧ (∀ a, a ∈ o → H1 a = none ∨ ∃ j, j ∈ vs ++ muL qs ++ muE qe ∧ a ∈ fo1 j) ∧ (∀ i, i ∈ vs → ∀ p, e2[i]? ≠ some (some p)) ∧
        Res c W σ (fun ds e3 => KE c σ (muI qi ++ vs ++ muL qs ++ muE qe) en H fo fs Q (.list ds, .own k) e3) (lcL (lcT k g (fun e => evAnd1 C qs e) (fun e => ev C qe e)) vs (r.1.drop i) acc e2)) ?_ ?_ ?_ ?_
      · -- the start
        have Fc := F1.clears vs
        refine ⟨wipeE e1 vs, clrF fo1 vs, clrF fs1 vs, [], [D], [], (Fc.wipe (fun i hi => wipeE_in hi) hv).laid hD, ((st1.mono mI).trans ((clears_step vs).mono fun i h => mM i (mV i h))).trans (Step.laid hD), (((clears_step vs).mono mV).trans (Step.laid hD)).weak,
          Own.newList Fc .mkNil hD List.nodup_nil (by simp) (by simp) (by simp) (by simp) (by simp), ⟨fun a ha => .inl (by rw [List.mem_singleton.mp ha]; exact hD0), by simp⟩, fun a ha => .inl (by rw [List.mem_singleton.mp ha]; exact hD), fun i hi => wipeE_in hi, by rw [List.drop_zero]; exact hr'⟩
      · -- it stands
        rintro i H2 _ ⟨e2, fo2, fs2, acc, o, s, F2, st2, sp2, _⟩
        exact ⟨e2, fo2, fs2, _, F2, sp2⟩
      · -- a turn
        rintro i x H2 H' hi ⟨e2, fo2, fs2, acc, o, s, F2, st2, sp2, w2, nw2, bn2, em2, res2⟩ y
        have hd : r.1[i]? = some r.1[i] := List.getElem?_eq_getElem hi
        have itm := ((stand _ e2 H2 fo2 fs2 _ hro F2 sp2).1 i _ hd).2 x H' y
        rw [drop_cons hd] at res2
        obtain ⟨e', hb, turn⟩ := lc_turn res2
        refine item_ok G.hK itm hgt hb F2 st2 (fun i h => mM i (mV i (hpt i h))) (fun i h => hv i (hpt i h)) fun σ3 fo3 fs3 s3 F3 st3 p3 bf3 stl => ?_
        have hσ : L2.wipe σ3 vs = L2.wipe σ vs := wipe_same (p3.len.trans (wipe_length σ vs)) fun j hj => p3.slot j fun h => hj (hpt j h)
        have w3 : Own c H' fo3 fs3 (.list acc) (k - 1 + 1) (.ref D) o s := (w2.carry F2 stl).put p3 fun a ha z => by
          rcases bn2 a ha with q | ⟨j, hj, q⟩
          · exact (bf3 a z).1 q
          · exact (bf3 a z).2 j hj q
        have sp3 : Stp (vs ++ muL qs ++ muE qe) e1 e' H1 H' fo1 fs1 fo3 fs3 := (sp2.trans (stl.weak.mono (by simp))).trans (p3.stp.mono fun i h => mV i (hpt i h))
        refine ⟨hσ, e', fo3, fs3, F3, (turn Wf σ3).imp fun b eb hb' H4 fo4 fs4 F4 st4 => ?_⟩
        have w4 := w3.carry F3 st4
        have sp4 := sp3.trans (st4.weak.mono mT)
        have st04 := st3.trans (st4.mono fun i h => mM i (mT i h))
        cases b with
        | false =>
          rw [if_neg Bool.false_ne_true] at hb'
          refine cast (if_neg Bool.false_ne_true).symm ?_
          have Fc := F4.clears vs
          have Fw := Fc.wipe (fun i hi => wipeE_in hi) hv
          rw [hσ] at Fw
          exact ⟨wipeE eb vs, clrF fo4 vs, clrF fs4 vs, acc, o, s, Fw, st04.trans ((clears_step vs).mono fun i h => mM i (mV i h)), sp4.trans ((clears_step vs).mono mV).weak, w4.carry F4 (clears_step vs), nw2, bn2, fun i hi => wipeE_in hi, hb'⟩
        | true =>
          rw [if_pos rfl] at hb'
          refine cast (if_pos rfl).symm ?_
          refine ⟨eb, fo4, fs4, F4, hb'.imp fun v e3 hv3 vv H5 fo5 fs5 oy sy F5 st5 ty ny => ?_⟩
          obtain ⟨hk1, hk2, hlen, hres⟩ := hv3
          have w5 := w4.carry F4 st5
          have dk : depOk (k - 1) v = true := by
            cases k with
            | zero => exact depOk_of_keep hk2
            | succ m => exact depOk_of_item hk1
          obtain ⟨oy', sy', yo, nyo⟩ := ty.keptD ny dk
          have ap := w4.apart nyo
          obtain ⟨accV, hDv, hl2, hDm, wn⟩ := w5.snoc yo ap.1 ap.2
          have Ff := F5.freeWrite (ws := accV ++ [vv]) hDv (fun j => w5.of D hDm j) (w5.so D hDm)
          have Fw := (Ff.clears vs).wipe (fun i hi => wipeE_in hi) hv
          rw [hσ] at Fw
          refine ⟨accV, hDv, by rw [lim, hl2]; exact hlen, wipeE e3 vs, clrF fo5 vs, clrF fs5 vs, acc ++ [v.1], o ++ oy', s ++ sy', Fw, ?_, ?_, wn.carry Ff (clears_step vs), nw2.app ((nyo.mono fun i h => mM i (mE i h)).back st04 fun i h => h), fun a ha => ?_, fun i hi => wipeE_in hi, hres⟩
          · exact ((st04.trans (st5.mono fun i h => mM i (mE i h))).freeWrite hD0).trans ((clears_step vs).mono fun i h => mM i (mV i h))
          · exact ((sp4.trans (st5.weak.mono mE)).freeWrite hD).trans ((clears_step vs).mono mV).weak
          · rcases List.mem_append.mp ha with ha | ha
            · exact bn2 a ha
            · rcases nyo.1 a ha with z | ⟨j, hj, z⟩
              · exact .inl (sp4.new z)
              · rcases sp4.oo j a z with z | ⟨_, z⟩
                · exact .inr ⟨j, mE j hj, z⟩
                · exact z
      · -- the end
        rintro H2 ⟨e2, fo2, fs2, acc, o, s, F2, st2, sp2, w2, nw2, bn2, em2, res2⟩
        rw [List.drop_length] at res2
        have res2 : KE c σ (muI qi ++ vs ++ muL qs ++ muE qe) en H fo fs Q (.list acc, .own k) e2 := res2
        obtain ⟨o', s', w', nw', _, _⟩ := w2.weak (m := k) (by omega) nw2
        exact res2 (.ref D) H2 fo2 fs2 o' s' (F2.unwipe em2 hv) st2 w' nw'
    · exact hr.elim
theorem sem_lc (G : Gd X c W) {elt tg iter : Expr} {ifs : List Expr} {scope : Scope} {own : List (Str × Nat)} {pos : Pos} {k : Nat} {g : Pat} {qi : QQ.IT} {qs : EL} {qe : E}
    (hi : PIq X c W C tg iter qi) (ok : BlkOk X.N X.env.scope scope own)
    (hg : ∀ (s : Shared) (H : Hp) (C : Addr) (cl : List (Str × Addr)) (fp : List Addr), PG (X.blk s H scope (compEnvC scope cl C X.env) fp) tg (gPt X.K g))
    (ht : ∀ (s : Shared) (H : Hp) (Ca : Addr) (cl : List (Str × Addr)) (fp : List Addr), PTs (X.blk s H scope (compEnvC scope cl Ca X.env) fp) ifs (tTs c Wf (muL qs) (fun e => evAnd1 C qs e)))
    (he : ∀ (s : Shared) (H : Hp) (Ca : Addr) (cl : List (Str × Addr)) (fp : List Addr), PEq (X.blk s H scope (compEnvC scope cl Ca X.env) fp) c Wf C elt qe)
    (hs : ∀ x, foldedSetIterable iter X.env x = pure x) (hpt : ∀ i, i ∈ ptL g → i ∈ own.map (·.2)) (hv : ∀ i, i ∈ own.map (·.2) → ∀ p ∈ c.iov, p.1 ≠ i) (hgt : isPair qi = false ∨ ∃ ps, g = .tp ps) :
    PEq X c W C (.ListComp elt [⟨tg, iter, ifs, 0⟩] scope pos) (.lc k (own.map (·.2)) g qi qs qe) := by
  exact (pe_lc G.hc G.hN hi ok hg ht he hs).imp fun σ H Q h => lc_read G hpt hv hgt h
/-! ### two clauses -/
theorem it_gen {J : L2.It} {n : Nat} {G : Hp → Prop} {Y : Nat → Hp → V → Hp → Prop} (w : Walk J n G Y) {B : (Hp → Prop) → V → Hp → Prop} {H0 : Hp} {Qd : Hp → Prop} (Pv : Nat → Hp → Prop) (h0 : Pv 0 H0) (hG : ∀ i H, i ≤ n → Pv i H → G H)
    (hs : ∀ i x H H', i < n → Pv i H → Y i H x H' → B (Pv (i + 1)) x H') (hd : ∀ H, Pv n H → Qd H) :
    ∃ W : Nat → Nat → Hp → Prop, (∃ m, W 0 m H0) ∧ ∀ i m H, W i m H → (J.stop i H ∧ Qd H) ∨ (J.go i H ∧ ∃ Nx : Hp → Prop, (∀ H', Nx H' → ∃ m', m' < m ∧ W (i + 1) m' H') ∧ ∀ x H', J.yld i H x H' → B Nx x H') := by
  refine ⟨fun i m H => m = n - i ∧ i ≤ n ∧ Pv i H, ⟨n, by simp, Nat.zero_le _, h0⟩, ?_⟩
  rintro i m H ⟨rfl, hi, p⟩
  have q := hG i H hi p
  by_cases hlt : i < n
  · exact .inr ⟨w.goes i H hlt q, Pv (i + 1), fun H' p' => ⟨n - (i + 1), by omega, rfl, hlt, p'⟩, fun x H' y => hs i x H H' hlt p (w.yields i H x H' hlt q y)⟩
  · have e : i = n := by omega
    subst e
    exact .inl ⟨w.stops H q, hd H p⟩
theorem keepFix {c : Cb} {en e1 : En} {σ : L2.St} {H H1 : Hp} {fo fs fo1 fs1 : FP} {mu : List Nat} (F : FR c en σ H fo fs) (st : Step mu en e1 H H1 fo fs fo1 fs1) : ∀ a x, H a = some x → fixO x = true → H1 a = some x := fun a x e h =>
  st.keep a x e (fixO_tbl h) fun i _ hi => by
    rw [F.notFix hi e] at h
    cases h
/-- a turn of the first clause, as it must go -/
theorem lc2_turn {W : WX} {σ : L2.St} {K : List D → En → Prop} {g : Pat} {ts : En → Out Bool} {iti : En → Out (List D)} {own own1 : List Nat} {loop : List D → List D → En → Out (List D)} {d : D} {ds acc : List D} {e : En} (h : Res c W σ K (lc2L (lc2T g ts iti own1 loop) own (d :: ds) acc e)) :
    ∃ e', bindP g d e = some e' ∧ ∀ W2 σ2, Res c W2 σ2 (fun b eb => if b = true then ∀ W3 σ3, Res c W3 σ3 (fun xs e3 => lfs xs = true ∧ ∀ W4 σ4, Res c W4 σ4 (fun acc' e4 => Res c W σ K (lc2L (lc2T g ts iti own1 loop) own ds acc' (wipeE e4 own))) (loop xs acc (wipeE e3 own1))) (iti eb)
      else Res c W σ K (lc2L (lc2T g ts iti own1 loop) own ds acc (wipeE eb own))) (ts e') := by
  have h : Res c W σ K (match lc2T g ts iti own1 loop d acc e with
    | .ok acc' e1 => lc2L (lc2T g ts iti own1 loop) own ds acc' (wipeE e1 own)
    | _ => .stuck) := h
  unfold lc2T at h
  cases hb : bindP g d e with
  | none => rw [hb] at h; exact h.elim
  | some e' =>
    rw [hb] at h
    refine ⟨e', rfl, fun W2 σ2 => ?_⟩
    simp only at h
    cases ht : ts e' with
    | stuck => rw [ht] at h; exact h.elim
    | exc x e1 => rw [ht] at h; exact h.elim
    | ok b eb =>
      rw [ht] at h
      simp only [Out.bind_ok] at h
      cases b with
      | false =>
        simp only [Bool.false_eq_true, if_false] at h
        refine Res_ok.mpr ?_
        rw [if_neg Bool.false_ne_true]
        exact h
      | true =>
        simp only [if_pos] at h
        refine Res_ok.mpr ?_
        rw [if_pos rfl]
        intro W3 σ3
        cases hi : iti eb with
        | stuck => rw [hi] at h; exact h.elim
        | exc x e1 => rw [hi] at h; exact h.elim
        | ok r e3 =>
          rw [hi] at h
          simp only [Out.bind_ok] at h
          cases hr : lfs r with
          | false => rw [hr] at h; exact h.elim
          | true =>
            rw [hr] at h
            simp only [if_pos] at h
            refine Res_ok.mpr ⟨hr, fun W4 σ4 => ?_⟩
            cases hq : loop r acc (wipeE e3 own1) with
            | stuck => rw [hq] at h; exact h.elim
            | exc x e1 => rw [hq] at h; exact h.elim
            | ok acc' e4 =>
              rw [hq] at h
              exact h
theorem lc2_read (G : Gd X c W) {k : Nat} {g g1 : Pat} {qi qi1 : QQ.IT} {qs qs1 : EL} {qe : E} {vs vs1 : List Nat} {σ : L2.St} {H : Hp} {Q : VK}
    (hpt : ∀ i, i ∈ ptL g → i ∈ vs) (hpt1 : ∀ i, i ∈ ptL g1 → i ∈ vs1) (hvv : ∀ i, i ∈ vs1 → i ∈ vs) (hv : ∀ i, i ∈ vs → ∀ p ∈ c.iov, p.1 ≠ i) (hgt : isPair qi = false ∨ ∃ ps, g = .tp ps)
    (h : tE c W (muE (.lc2 k vs g qi qs vs1 g1 qi1 qs1 qe)) (ev C (.lc2 k vs g qi qs vs1 g1 qi1 qs1 qe)) σ H Q) :
    tLc2 (tIt c (isPair qi) W (muI qi) (evI C qi)) (gPt X.K g) (tTs c Wf (muL qs) (fun e => evAnd1 C qs e)) (tItF c Wf (muI qi1) (evF C qi1)) (gPt X.K g1) (tTs c Wf (muL qs1) (fun e => evAnd1 C qs1 e)) (tE c Wf (muE qe) (ev C qe)) vs vs1 σ H Q := by
  obtain ⟨en, fo, fs, F, hr⟩ := h
  generalize hN : vs ++ muL qs ++ muI qi1 ++ muL qs1 ++ muE qe = N at hr
  have eM : muE (.lc2 k vs g qi qs vs1 g1 qi1 qs1 qe) = muI qi ++ N := by
    rw [← hN]
    simp [muE]
  rw [eM] at hr
  generalize hM : muI qi ++ N = M at hr
  generalize hf : lc2T g (fun e => evAnd1 C qs e) (fun e => evF C qi1 e) vs1 (fun ds acc e => lcL (lcT k g1 (fun e => evAnd1 C qs1 e) (fun e => ev C qe e)) vs1 ds acc e) = f
  have hr : Res c W σ (KE c σ M en H fo fs Q) ((evI C qi en).bind fun r e1 => if (r.2.all fun i => !N.contains i) then
      (lc2L f vs r.1 [] (wipeE e1 vs)).bind fun ds e2 => .ok (.list ds, .own k) e2
    else .stuck) := by
    rw [← hf, ← hN]
    exact hr
  have mI : ∀ i, i ∈ muI qi → i ∈ M := fun i h => by rw [← hM]; exact inL i h
  have mM : ∀ i, i ∈ N → i ∈ M := fun i h => by rw [← hM]; exact inR i h
  have mV : ∀ i, i ∈ vs → i ∈ N := fun i h => by rw [← hN]; simp [h]
  have mT : ∀ i, i ∈ muL qs → i ∈ N := fun i h => by rw [← hN]; simp [h]
  have mI1 : ∀ i, i ∈ muI qi1 → i ∈ N := fun i h => by rw [← hN]; simp [h]
  have mT1 : ∀ i, i ∈ muL qs1 → i ∈ N := fun i h => by rw [← hN]; simp [h]
  have mE : ∀ i, i ∈ muE qe → i ∈ N := fun i h => by rw [← hN]; simp [h]
  have hv1 : ∀ i, i ∈ vs1 → ∀ p ∈ c.iov, p.1 ≠ i := fun i hi => hv i (hvv i hi)
  refine ⟨en, fo, fs, F, ?_⟩
  cases hev : evI C qi en with
  | stuck => rw [hev] at hr; exact hr
  | exc x e1 => rw [hev] at hr; exact hr
  | ok r e1 =>
    rw [hev, Out.bind_ok] at hr
    intro J H1 fo1 fs1 F1 st1 stand D hD
    split at hr
    · rename_i hroots
      have hro : ∀ i, i ∈ r.2 → i ∉ N := fun i hi => by
        have := List.all_eq_true.mp hroots i hi
        simpa using this
      have hD0 : H D = none := st1.new hD
      have hr' : Res c W σ (fun ds e3 => KE c σ M en H fo fs Q (.list ds, .own k) e3) (lc2L f vs r.1 [] (wipeE e1 vs)) := by
        cases hq : lc2L f vs r.1 [] (wipeE e1 vs) with
        | stuck => rw [hq] at hr; exact hr
        | exc x e => rw [hq] at hr; exact hr
        | ok ds e => rw [hq] at hr; exact hr
      clear hr
      have w : Walk J r.1.length (fun H2 => ∃ e2 fo2 fs2 σ2, FR c e2 σ2 H2 fo2 fs2 ∧ Stp N e1 e2 H1 H2 fo1 fs1 fo2 fs2) (fun i H2 x H' => J.yld i H2 x H') :=
        ⟨fun i H2 hi ⟨e2, fo2, fs2, σ2, F2, s2⟩ => ((stand _ e2 H2 fo2 fs2 σ2 hro F2 s2).1 i _ (List.getElem?_eq_getElem hi)).1, fun H2 ⟨e2, fo2, fs2, σ2, F2, s2⟩ => (stand _ e2 H2 fo2 fs2 σ2 hro F2 s2).2, fun _ _ _ _ _ _ y => y⟩
      -- what holds of the new list
      let Acc (e2 : En) (H2 : Hp) (fo2 fs2 : FP) (acc : List QQ.D) (o s : List Addr) : Prop := Step M en e2 H H2 fo fs fo2 fs2 ∧ Stp N e1 e2 H1 H2 fo1 fs1 fo2 fs2 ∧
        Own c H2 fo2 fs2 (.list acc) (k - 1 + 1) (.ref D) o s ∧ New M H fo fs o s ∧ (∀ a, a ∈ o → H1 a = none ∨ ∃ j, j ∈ N ∧ a ∈ fo1 j)
      refine it_gen w (B := fun Nx x H' => gPt X.K g x (L2.wipe σ vs) H' fun σ2 H2 => L2.wipe σ2 vs = L2.wipe σ vs ∧ tTs c Wf (muL qs) (fun e => evAnd1 C qs e) σ2 H2 fun b H3 =>
          if b = true then tItF c Wf (muI qi1) (evF C qi1) σ2 H3 fun J1 H4 => ∃ W1 : Nat → Nat → Hp → Prop, (∃ m, W1 0 m H4) ∧ ∀ j k H, W1 j k H →
            (J1.stop j H ∧ Nx H) ∨ (J1.go j H ∧ ∃ Nx1 : Hp → Prop, (∀ H', Nx1 H' → ∃ k', k' < k ∧ W1 (j + 1) k' H') ∧ ∀ x H', J1.yld j H x H' → gPt X.K g1 x (L2.wipe σ2 vs1) H' fun σ3 H5 => L2.wipe σ3 vs1 = L2.wipe σ2 vs1 ∧ tTs c Wf (muL qs1) (fun e => evAnd1 C qs1 e) σ3 H5 fun b H6 =>
              if b = true then tE c Wf (muE qe) (ev C qe) σ3 H6 fun y H7 => ∃ acc, H7 D = some (.lst acc) ∧ acc.length < sizeLine ∧ Nx1 (upd H7 D (.lst (acc ++ [y]))) else Nx1 H6)
          else Nx H3)
        (fun i H2 => ∃ e2 fo2 fs2 acc o s, FR c e2 (L2.wipe σ vs) H2 fo2 fs2 ∧ Acc e2 H2 fo2 fs2 acc o s ∧ (∀ i, i ∈ vs → ∀ p, e2[i]? ≠ some (some p)) ∧
        Res c W σ (fun ds e3 => KE c σ M en H fo fs Q (.list ds, .own k) e3) (lc2L f vs (r.1.drop i) acc e2)) ?_ ?_ ?_ ?_
      · -- the start
        have Fc := F1.clears vs
        refine ⟨wipeE e1 vs, clrF fo1 vs, clrF fs1 vs, [], [D], [], (Fc.wipe (fun i hi => wipeE_in hi) hv).laid hD, ⟨((st1.mono mI).trans ((clears_step vs).mono fun i h => mM i (mV i h))).trans (Step.laid hD), (((clears_step vs).mono mV).trans (Step.laid hD)).weak,
          Own.newList Fc .mkNil hD List.nodup_nil (by simp) (by simp) (by simp) (by simp) (by simp), ⟨fun a ha => .inl (by rw [List.mem_singleton.mp ha]; exact hD0), by simp⟩, fun a ha => .inl (by rw [List.mem_singleton.mp ha]; exact hD)⟩, fun i hi => wipeE_in hi, by rw [List.drop_zero]; exact hr'⟩
      · -- it stands
        rintro i H2 _ ⟨e2, fo2, fs2, acc, o, s, F2, ⟨st2, sp2, _⟩, _⟩
        exact ⟨e2, fo2, fs2, _, F2, sp2⟩
      · -- a turn
        rintro i x H2 H' hi ⟨e2, fo2, fs2, acc, o, s, F2, ⟨st2, sp2, w2, nw2, bn2⟩, em2, res2⟩ y
        have hd : r.1[i]? = some r.1[i] := List.getElem?_eq_getElem hi
        have itm := ((stand _ e2 H2 fo2 fs2 _ hro F2 sp2).1 i _ hd).2 x H' y
        rw [drop_cons hd, ← hf] at res2
        obtain ⟨e', hb, turn⟩ := lc2_turn res2
        rw [hf] at turn
        refine item_ok G.hK itm hgt hb F2 st2 (fun i h => mM i (mV i (hpt i h))) (fun i h => hv i (hpt i h)) fun σ3 fo3 fs3 s3 F3 st3 p3 bf3 stl => ?_
        have hσ : L2.wipe σ3 vs = L2.wipe σ vs := wipe_same (p3.len.trans (wipe_length σ vs)) fun j hj => p3.slot j fun h => hj (hpt j h)
        have w3 : Own c H' fo3 fs3 (.list acc) (k - 1 + 1) (.ref D) o s := (w2.carry F2 stl).put p3 fun a ha z => by
          rcases bn2 a ha with q | ⟨j, hj, q⟩
          · exact (bf3 a z).1 q
          · exact (bf3 a z).2 j hj q
        have sp3 : Stp N e1 e' H1 H' fo1 fs1 fo3 fs3 := (sp2.trans (stl.weak.mono (by simp))).trans (p3.stp.mono fun i h => mV i (hpt i h))
        refine ⟨hσ, e', fo3, fs3, F3, (turn Wf σ3).imp fun b eb hb' H4 fo4 fs4 F4 st4 => ?_⟩
        have w4 := w3.carry F3 st4
        have sp4 := sp3.trans (st4.weak.mono mT)
        have st04 := st3.trans (st4.mono fun i h => mM i (mT i h))
        cases b with
        | false =>
          rw [if_neg Bool.false_ne_true] at hb'
          refine cast (if_neg Bool.false_ne_true).symm ?_
          have Fc := F4.clears vs
          have Fw := Fc.wipe (fun i hi => wipeE_in hi) hv
          rw [hσ] at Fw
          exact ⟨wipeE eb vs, clrF fo4 vs, clrF fs4 vs, acc, o, s, Fw, ⟨st04.trans ((clears_step vs).mono fun i h => mM i (mV i h)), sp4.trans ((clears_step vs).mono mV).weak, w4.carry F4 (clears_step vs), nw2, bn2⟩, fun i hi => wipeE_in hi, hb'⟩
        | true =>
          rw [if_pos rfl] at hb'
          refine cast (if_pos rfl).symm ?_
          refine ⟨eb, fo4, fs4, F4, (hb' Wf σ3).imp fun xs1 e5 hr1 J1 H5 fo5 fs5 F5 st5 stand1 => ?_⟩
          obtain ⟨hlf1, hloop⟩ := hr1
          have w5 := w4.carry F4 st5
          have sp5 := sp4.trans (st5.weak.mono mI1)
          have st05 := st04.trans (st5.mono fun i h => mM i (mI1 i h))
          have ww : Walk J1 xs1.length (fun H2 => ∀ a x, H5 a = some x → fixO x = true → H2 a = some x) (fun i H2 x H' => J1.yld i H2 x H') :=
            ⟨fun i H2 hi s2 => ((stand1 H2 s2).1 i _ (List.getElem?_eq_getElem hi)).1, fun H2 s2 => (stand1 H2 s2).2, fun _ _ _ _ _ _ y => y⟩
          refine it_gen ww (B := fun Nx1 x H' => gPt X.K g1 x (L2.wipe σ3 vs1) H' fun σ3' H5 => L2.wipe σ3' vs1 = L2.wipe σ3 vs1 ∧ tTs c Wf (muL qs1) (fun e => evAnd1 C qs1 e) σ3' H5 fun b H6 =>
              if b = true then tE c Wf (muE qe) (ev C qe) σ3' H6 fun y H7 => ∃ acc, H7 D = some (.lst acc) ∧ acc.length < sizeLine ∧ Nx1 (upd H7 D (.lst (acc ++ [y]))) else Nx1 H6)
            (fun j H6 => ∃ e6 fo6 fs6 acc o s, FR c e6 (L2.wipe σ3 vs1) H6 fo6 fs6 ∧ Acc e6 H6 fo6 fs6 acc o s ∧ (∀ a x, H5 a = some x → fixO x = true → H6 a = some x) ∧ (∀ i, i ∈ vs1 → ∀ p, e6[i]? ≠ some (some p)) ∧
            Res c Wf σ3 (fun acc' e4 => Res c W σ (fun ds e3 => KE c σ M en H fo fs Q (.list ds, .own k) e3) (lc2L f vs (r.1.drop (i + 1)) acc' (wipeE e4 vs))) (lcL (lcT k g1 (fun e => evAnd1 C qs1 e) (fun e => ev C qe e)) vs1 (xs1.drop j) acc e6)) ?_ ?_ ?_ ?_
          · -- the start within
            have Fc := F5.clears vs1
            exact ⟨wipeE e5 vs1, clrF fo5 vs1, clrF fs5 vs1, acc, o, s, Fc.wipe (fun i hi => wipeE_in hi) hv1, ⟨st05.trans ((clears_step vs1).mono fun i h => mM i (mV i (hvv i h))), sp5.trans ((clears_step vs1).mono fun i h => mV i (hvv i h)).weak, w5.carry F5 (clears_step vs1), nw2, bn2⟩, fun _ _ e _ => e, fun i hi => wipeE_in hi, by rw [List.drop_zero]; exact hloop Wf σ3⟩
          · rintro j H6 _ ⟨e6, fo6, fs6, acc, o, s, F6, _, sn6, _⟩
            exact sn6
          · -- a turn within
            rintro j x6 H6 H6' hj ⟨e6, fo6, fs6, acc, o, s, F6, ⟨st6, sp6, w6, nw6, bn6⟩, sn6, em6, res6⟩ y6
            have hd6 : xs1[j]? = some xs1[j] := List.getElem?_eq_getElem hj
            obtain ⟨eH6, ro6⟩ := ((stand1 H6 sn6).1 j _ hd6).2 x6 H6' y6
            subst eH6
            rw [drop_cons hd6] at res6
            obtain ⟨e7, hb7, turn7⟩ := lc_turn res6
            refine bind_ok G.hK g1 hb7 F6 st6 (fun i h => mM i (mV i (hvv i (hpt1 i h)))) (fun i h => hv1 i (hpt1 i h)) ro6 Sh.nil fun σ7 fo7 fs7 F7 st07 p7 => ?_
            have hσ7 : L2.wipe σ7 vs1 = L2.wipe σ3 vs1 := wipe_same (p7.len.trans (wipe_length σ3 vs1)) fun j hj => p7.slot j fun h => hj (hpt1 j h)
            have w7 : Own c H6' fo7 fs7 (.list acc) (k - 1 + 1) (.ref D) o s := w6.put p7 fun a ha z => by cases z
            have sp7 : Stp N e1 e7 H1 H6' fo1 fs1 fo7 fs7 := sp6.trans (p7.stp.mono fun i h => mV i (hvv i (hpt1 i h)))
            refine ⟨hσ7, e7, fo7, fs7, F7, (turn7 Wf σ7).imp fun b eb hb8 H8 fo8 fs8 F8 st8 => ?_⟩
            have w8 := w7.carry F7 st8
            have sp8 := sp7.trans (st8.weak.mono mT1)
            have sn8 : ∀ a x, H5 a = some x → fixO x = true → H8 a = some x := fun a x e h => keepFix F7 st8 a x (sn6 a x e h) h
            have st08 := st07.trans (st8.mono fun i h => mM i (mT1 i h))
            cases b with
            | false =>
              rw [if_neg Bool.false_ne_true] at hb8
              refine cast (if_neg Bool.false_ne_true).symm ?_
              have Fc := F8.clears vs1
              have Fw := Fc.wipe (fun i hi => wipeE_in hi) hv1
              rw [hσ7] at Fw
              exact ⟨wipeE eb vs1, clrF fo8 vs1, clrF fs8 vs1, acc, o, s, Fw, ⟨st08.trans ((clears_step vs1).mono fun i h => mM i (mV i (hvv i h))), sp8.trans ((clears_step vs1).mono fun i h => mV i (hvv i h)).weak, w8.carry F8 (clears_step vs1), nw6, bn6⟩, sn8, fun i hi => wipeE_in hi, hb8⟩
            | true =>
              rw [if_pos rfl] at hb8
              refine cast (if_pos rfl).symm ?_
              refine ⟨eb, fo8, fs8, F8, hb8.imp fun v e3 hv3 vv H9 fo9 fs9 oy sy F9 st9 ty ny => ?_⟩
              obtain ⟨hk1, hk2, hlen, hres⟩ := hv3
              have w9 := w8.carry F8 st9
              have dk : depOk (k - 1) v = true := by
                cases k with
                | zero => exact depOk_of_keep hk2
                | succ m => exact depOk_of_item hk1
              obtain ⟨oy', sy', yo, nyo⟩ := ty.keptD ny dk
              have ap := w8.apart nyo
              obtain ⟨accV, hDv, hl2, hDm, wn⟩ := w9.snoc yo ap.1 ap.2
              have Ff := F9.freeWrite (ws := accV ++ [vv]) hDv (fun j => w9.of D hDm j) (w9.so D hDm)
              have Fw := (Ff.clears vs1).wipe (fun i hi => wipeE_in hi) hv1
              rw [hσ7] at Fw
              have hDH1 : H1 D = none := hD
              refine ⟨accV, hDv, by rw [lim, hl2]; exact hlen, wipeE e3 vs1, clrF fo9 vs1, clrF fs9 vs1, acc ++ [v.1], o ++ oy', s ++ sy', Fw, ⟨?_, ?_, wn.carry Ff (clears_step vs1), nw6.app ((nyo.mono fun i h => mM i (mE i h)).back st08 fun i h => h), fun a ha => ?_⟩, fun a x e h => ?_, fun i hi => wipeE_in hi, hres⟩
              · exact ((st08.trans (st9.mono fun i h => mM i (mE i h))).freeWrite hD0).trans ((clears_step vs1).mono fun i h => mM i (mV i (hvv i h)))
              · exact ((sp8.trans (st9.weak.mono mE)).freeWrite hD).trans ((clears_step vs1).mono fun i h => mV i (hvv i h)).weak
              · rcases List.mem_append.mp ha with ha | ha
                · exact bn6 a ha
                · rcases nyo.1 a ha with z | ⟨j, hj, z⟩
                  · exact .inl (sp8.new z)
                  · rcases sp8.oo j a z with z | ⟨_, z⟩
                    · exact .inr ⟨j, mE j hj, z⟩
                    · exact z
              · have h9 := keepFix F8 st9 a x (sn8 a x e h) h
                rw [upd_ne (fun z => by subst z; rw [hDv] at h9; cases h9; cases h)]
                exact h9
          · -- the end within
            rintro H6 ⟨e6, fo6, fs6, acc, o, s, F6, ⟨st6, sp6, w6, nw6, bn6⟩, sn6, em6, res6⟩
            rw [List.drop_length] at res6
            have res6 : Res c W σ (fun ds e3 => KE c σ M en H fo fs Q (.list ds, .own k) e3) (lc2L f vs (r.1.drop (i + 1)) acc (wipeE e6 vs)) := res6
            have Fw := (F6.clears vs).wipe (fun i hi => wipeE_in hi) hv
            have e9 : L2.wipe (L2.wipe σ3 vs1) vs = L2.wipe σ vs := by
              rw [← hσ]
              exact wipe_same (wipe_length σ3 vs1) fun j hj => by rw [wipe_out (fun h => hj (hvv j h)), wipe_out hj]
            rw [e9] at Fw
            exact ⟨wipeE e6 vs, clrF fo6 vs, clrF fs6 vs, acc, o, s, Fw, ⟨st6.trans ((clears_step vs).mono fun i h => mM i (mV i h)), sp6.trans ((clears_step vs).mono mV).weak, w6.carry F6 (clears_step vs), nw6, bn6⟩, fun i hi => wipeE_in hi, res6⟩
      · -- the end
        rintro H2 ⟨e2, fo2, fs2, acc, o, s, F2, ⟨st2, sp2, w2, nw2, bn2⟩, em2, res2⟩
        rw [List.drop_length] at res2
        have res2 : KE c σ M en H fo fs Q (.list acc, .own k) e2 := res2
        obtain ⟨o', s', w', nw', _, _⟩ := w2.weak (m := k) (by omega) nw2
        exact res2 (.ref D) H2 fo2 fs2 o' s' (F2.unwipe em2 hv) st2 w' nw'
    · exact hr.elim
theorem sem_lc2 (G : Gd X c W) {elt tg iter tg1 iter1 : Expr} {ifs ifs1 : List Expr} {scope : Scope} {own : List (Str × Nat)} {vs1 : List Nat} {pos : Pos} {k : Nat} {g g1 : Pat} {qi qi1 : QQ.IT} {qs qs1 : EL} {qe : E}
    (hi : PIq X c W C tg iter qi) (ok : BlkOk X.N X.env.scope scope own) (hvv : ∀ i, i ∈ vs1 → i ∈ own.map (·.2))
    (hg : ∀ (s : Shared) (H : Hp) (C : Addr) (cl : List (Str × Addr)) (fp : List Addr), PG (X.blk s H scope (compEnvC scope cl C X.env) fp) tg (gPt X.K g))
    (ht : ∀ (s : Shared) (H : Hp) (Ca : Addr) (cl : List (Str × Addr)) (fp : List Addr), PTs (X.blk s H scope (compEnvC scope cl Ca X.env) fp) ifs (tTs c Wf (muL qs) (fun e => evAnd1 C qs e)))
    (hi1 : ∀ (s : Shared) (H : Hp) (Ca : Addr) (cl : List (Str × Addr)) (fp : List Addr), PIf (X.blk s H scope (compEnvC scope cl Ca X.env) fp) c Wf C tg1 iter1 qi1)
    (hg1 : ∀ (s : Shared) (H : Hp) (C : Addr) (cl : List (Str × Addr)) (fp : List Addr), PG (X.blk s H scope (compEnvC scope cl C X.env) fp) tg1 (gPt X.K g1))
    (ht1 : ∀ (s : Shared) (H : Hp) (Ca : Addr) (cl : List (Str × Addr)) (fp : List Addr), PTs (X.blk s H scope (compEnvC scope cl Ca X.env) fp) ifs1 (tTs c Wf (muL qs1) (fun e => evAnd1 C qs1 e)))
    (he : ∀ (s : Shared) (H : Hp) (Ca : Addr) (cl : List (Str × Addr)) (fp : List Addr), PEq (X.blk s H scope (compEnvC scope cl Ca X.env) fp) c Wf C elt qe)
    (hs : ∀ x, foldedSetIterable iter X.env x = pure x) (hs1 : ∀ env x, foldedSetIterable iter1 env x = pure x) (hpt : ∀ i, i ∈ ptL g → i ∈ own.map (·.2)) (hpt1 : ∀ i, i ∈ ptL g1 → i ∈ vs1) (hv : ∀ i, i ∈ own.map (·.2) → ∀ p ∈ c.iov, p.1 ≠ i) (hgt : isPair qi = false ∨ ∃ ps, g = .tp ps) :
    PEq X c W C (.ListComp elt [⟨tg, iter, ifs, 0⟩, ⟨tg1, iter1, ifs1, 0⟩] scope pos) (.lc2 k (own.map (·.2)) g qi qs vs1 g1 qi1 qs1 qe) := by
  exact (pe_lc2 G.hc G.hN hi ok hvv hg ht hi1 hg1 ht1 he hs hs1).imp fun σ H Q h => lc2_read G hpt hpt1 hvv hv hgt h
end
end QQ
namespace QQ
open PySem L2

/-- what a statement comes to -/
def ResS {α : Type} (c : Cb) (W : WX) (K : α → En → Prop) : Out α → Prop
  | .stuck => False
  | .ok a e => K a e
  | .exc x e => ∀ σ, XP c W σ x e
def KS (c : Cb) (mu : List Nat) (en : En) (H : Hp) (fo fs : FP) (D : Ends) (fl : QQ.Fl) (e : En) : Prop := match fl with
  | .nx => ∀ σ' H' fo' fs', FR c e σ' H' fo' fs' → Step mu en e H H' fo fs fo' fs' → D.nx σ' H'
  | .rt d k => ∀ v σ' H' fo' fs' o s, FR c e σ' H' fo' fs' → Step mu en e H H' fo fs fo' fs' → Own c H' fo' fs' d k v o s → New mu H fo fs o s → D.rt v H'
def tSt (c : Cb) (W : WX) (mu : List Nat) (den : En → Out QQ.Fl) : TS := fun D σ H => ∃ en fo fs, FR c en σ H fo fs ∧ ResS c W (KS c mu en H fo fs D) (den en)
abbrev PSq (X : Cx) (c : Cb) (W : WX) (C : Orc) (WF : Nat) (st : Stmt) (q : S) : Prop := PS X st (tSt c W (muS q) (ex C WF q))
abbrev PSsq (X : Cx) (c : Cb) (W : WX) (C : Orc) (WF : Nat) (st : List Stmt) (q : SL) : Prop := PSs X st (tSt c W (muSs q) (exs C WF q))
section
variable {c : Cb} {W : WX} {mu ma mb : List Nat} {en e e1 : En} {σ : L2.St} {H H1 : Hp} {fo fs fo1 fs1 : FP} {DE : Ends}
theorem ResS.imp {α : Type} {K K' : α → En → Prop} (k : ∀ a e, K a e → K' a e) : ∀ {o : Out α}, ResS c W K o → ResS c W K' o
  | .ok a e, h => k a e h
  | .exc _ _, h => h
  | .stuck, h => h
theorem ResS.at {α : Type} {K : α → En → Prop} (σ : L2.St) : ∀ {o : Out α}, ResS c W K o → Res c W σ K o
  | .ok a e, h => h
  | .exc _ _, h => h σ
  | .stuck, h => h
theorem KS.after {fl : QQ.Fl} (k : KS c mu en H fo fs DE fl e) (st : Step ma en e1 H H1 fo fs fo1 fs1) (h1 : ∀ i, i ∈ ma → i ∈ mu) (h2 : ∀ i, i ∈ mb → i ∈ mu) : KS c mb e1 H1 fo1 fs1 DE fl e := by
  cases fl with
  | nx => exact fun σ' H' fo' fs' F' st' => k σ' H' fo' fs' F' ((st.mono h1).trans (st'.mono h2))
  | rt d n => exact fun v σ' H' fo' fs' o s F' st' t nw => k v σ' H' fo' fs' o s F' ((st.mono h1).trans (st'.mono h2)) t ((nw.mono h2).back st h1)
theorem tS_after {den : En → Out QQ.Fl} (F : FR c e1 σ H1 fo1 fs1) (h : ResS c W (KS c mu en H fo fs DE) (den e1)) (st : Step ma en e1 H H1 fo fs fo1 fs1) (h1 : ∀ i, i ∈ ma → i ∈ mu) (h2 : ∀ i, i ∈ mb → i ∈ mu) : tSt c W mb den DE σ H1 :=
  ⟨e1, fo1, fs1, F, h.imp fun _ _ k => k.after st h1 h2⟩
/-- a value is asked first -/
theorem tE_seqS {β : Type} {K : β → En → Prop} {f : QQ.D × Kd → En → Out β} {Q : VK} {den : En → Out (QQ.D × Kd)} (F : FR c en σ H fo fs) (h : ResS c W K ((den en).bind f))
    (k : ∀ r e1, ResS c W K (f r e1) → KE c σ mu en H fo fs Q r e1) : tE c W mu den σ H Q := by
  refine ⟨en, fo, fs, F, ?_⟩
  cases e : den en with
  | stuck => rw [e] at h; exact h
  | exc x e1 => rw [e] at h; exact h σ
  | ok r e1 => rw [e] at h; exact k r e1 h
theorem tT_seqS {β : Type} {K : β → En → Prop} {den : En → Out Bool} {f : Bool → En → Out β} {Q : Bool → Hp → Prop} (F : FR c en σ H fo fs) (h : ResS c W K ((den en).bind f))
    (k : ∀ r e1, ResS c W K (f r e1) → KT c σ mu en H fo fs Q r e1) : tTs c W mu den σ H Q := by
  refine ⟨en, fo, fs, F, ?_⟩
  cases e : den en with
  | stuck => rw [e] at h; exact h
  | exc x e1 => rw [e] at h; exact h σ
  | ok r e1 => rw [e] at h; exact k r e1 h
theorem tA_seqS {β : Type} {K : β → En → Prop} {den : En → Out (List (QQ.D × Kd))} {f : List (QQ.D × Kd) → En → Out β} {Q : List V → Hp → Prop} (F : FR c en σ H fo fs) (h : ResS c W K ((den en).bind f))
    (k : ∀ r e1, den en = .ok r e1 → ResS c W K (f r e1) → KA c σ mu en H fo fs Q r e1) : tAr c W mu den σ H Q := by
  refine ⟨en, fo, fs, F, ?_⟩
  cases e : den en with
  | stuck => rw [e] at h; exact h
  | exc x e1 => rw [e] at h; exact h σ
  | ok r e1 => rw [e] at h; exact k r e1 e h
theorem tI_seqS {β : Type} {K : β → En → Prop} {pr : Bool} {den : En → Out (List QQ.D × List Nat)} {f : List QQ.D × List Nat → En → Out β} {R : L2.It → Hp → Prop} (F : FR c en σ H fo fs) (h : ResS c W K ((den en).bind f))
    (k : ∀ r e1, ResS c W K (f r e1) → KI c pr σ mu en H fo fs R r e1) : tIt c pr W mu den σ H R := by
  refine ⟨en, fo, fs, F, ?_⟩
  cases e : den en with
  | stuck => rw [e] at h; exact h
  | exc x e1 => rw [e] at h; exact h σ
  | ok r e1 => rw [e] at h; exact k r e1 h
/-- a value is put in a slot -/
theorem put_own {en0 : En} {H0 : Hp} {fo0 fs0 : FP} (F : FR c e σ H fo fs) (st : Step mu en0 e H0 H fo0 fs0 fo fs) {i : Nat} {d : QQ.D} {n : Nat} {v : V} {o s : List Addr} (hi : i ∈ mu) (hl : i < e.length) (hv : ∀ p ∈ c.iov, p.1 ≠ i) (w : Own c H fo fs d n v o s) (nw : New mu H0 fo0 fs0 o s) :
    FR c (e.set i (some (d, n))) (σ.set i (some v)) H (updF fo i o) (updF fs i s) ∧ Step mu en0 (e.set i (some (d, n))) H0 H fo0 fs0 (updF fo i o) (updF fs i s) := by
  have hl' : i < σ.length := by rw [← F.len]; exact hl
  have F1 := F.clear i
  have F2 : FR c (e.set i none) (σ.set i (some v)) H (updF fo i []) (updF fs i []) := F1.sigma (by rw [List.length_set]) (fun j p hj => by
    by_cases hij : j = i
    · subst hij; rw [List.getElem?_set_self hl] at hj; cases hj
    · rw [List.getElem?_set_ne (Ne.symm hij)]) fun p hp => List.getElem?_set_ne (Ne.symm (hv p hp))
  have w2 : Own c H (updF fo i []) (updF fs i []) d n v o s := w.carry F (clear_step (en := e) i)
  have F3 := F2.put (fun p z => by rw [List.getElem?_set_self hl] at z; cases z) w2 (by rw [List.length_set]; exact hl) (List.getElem?_set_self hl')
  rw [set_set, updF_updF, updF_updF] at F3
  refine ⟨F3, ⟨st.keep, st.dom, fun j a ha => ?_, fun j a ha => ?_, fun j hj => ?_, fun j hj a ha => ?_, fun j hj => ?_⟩⟩
  · by_cases hij : j = i
    · subst hij; rw [updF_same] at ha; exact .inr ⟨hi, nw.1 a ha⟩
    · rw [updF_ne hij] at ha; exact st.oo j a ha
  · by_cases hij : j = i
    · subst hij; rw [updF_same] at ha; exact .inr (.inr ⟨hi, nw.2 a ha⟩)
    · rw [updF_ne hij] at ha; exact st.ss j a ha
  · have hij : j ≠ i := fun z => hj (z ▸ hi)
    rw [List.getElem?_set_ne (Ne.symm hij)]; exact st.val j hj
  · have hij : j ≠ i := fun z => hj (z ▸ hi)
    rw [updF_ne hij, updF_ne hij]; exact st.all j hj a ha
  · have hij : j ≠ i := fun z => hj (z ▸ hi)
    unfold depthAt
    rw [List.getElem?_set_ne (Ne.symm hij)]; exact st.dep j hj
theorem flag_le (d : QQ.D) (n : Nat) : flagOf d n ≤ n := by
  cases d <;> first | exact Nat.le_refl _ | exact Nat.zero_le _
/-- name = value -/
theorem asg_ok {en0 : En} {H0 : Hp} {fo0 fs0 : FP} (F : FR c e σ H fo fs) (st : Step mu en0 e H0 H fo0 fs0 fo fs) {i : Nat} {r : QQ.D × Kd} {v : V} {o s : List Addr} {e2 : En} (hi : i ∈ mu) (hv : ∀ p ∈ c.iov, p.1 ≠ i) (t : TV c e σ H fo fs r v o s) (nw : New mu H0 fo0 fs0 o s) (h : asgN i r e = some e2) :
    ∃ fo2 fs2, FR c e2 (σ.set i (some v)) H fo2 fs2 ∧ Step mu en0 e2 H0 H fo0 fs0 fo2 fs2 := by
  unfold asgN at h
  split at h
  · rename_i n hk
    split at h
    · rename_i hl
      cases h
      obtain ⟨o1, s1, w1, nw1, _, _⟩ := t.kept nw hk
      obtain ⟨o2, s2, w2, nw2, _, _⟩ := w1.weak (flag_le r.1 n) nw1
      exact ⟨_, _, put_own F st hi hl hv w2 nw2⟩
    · cases h
  · cases h
end
section
variable {X : Cx} {c : Cb} {W : WX} {C : Orc} {WF : Nat}
theorem sem_asgR (G : Gd X c W) {e : Expr} {q : E} {i : Nat} {te : TE} (hv : ∀ p ∈ c.iov, p.1 ≠ i) {D : Ends} {σ : L2.St} {H : Hp} (h : tSt c W (muS (.asg (.nm i) q)) (ex C WF (.asg (.nm i) q)) D σ H) :
    tE c W (muE q) (ev C q) σ H fun x H1 => gName i x σ H1 D.nx := by
  obtain ⟨en, fo, fs, F, hr⟩ := h
  have hr : ResS c W (KS c (muE q ++ [i]) en H fo fs D) ((ev C q en).bind fun r e1 => opt (asgN i r e1)) := hr
  refine tE_seqS F hr fun r e1 hx v H1 fo1 fs1 o s F1 st1 tx nx => ?_
  cases ha : asgN i r e1 with
  | none => rw [ha] at hx; exact hx.elim
  | some e2 =>
    rw [ha] at hx
    obtain ⟨fo2, fs2, F2, st2⟩ := asg_ok F1 (st1.mono inL) (List.mem_append_right _ (List.mem_singleton.mpr rfl)) hv tx (nx.mono inL) ha
    exact hx _ _ _ _ F2 st2
theorem sem_pass : PSq X c W C WF (.Pass pos) .pass := by
  refine ps_pass.imp fun D σ H h => ?_
  obtain ⟨en, fo, fs, F, hr⟩ := h
  exact hr σ H fo fs F .refl
theorem sem_ret (G : Gd X c W) {e : Expr} {q : E} {pos : Pos} (he : PEq X c W C e q) : PSq X c W C WF (.Return (some e) pos) (.ret q) := by
  refine (ps_ret he).imp fun D σ H h => ?_
  obtain ⟨en, fo, fs, F, hr⟩ := h
  have hr : ResS c W (KS c (muE q) en H fo fs D) ((ev C q en).bind fun r e1 => match keepK r with
      | some n => .ok (.rt r.1 n) e1
      | none => .stuck) := hr
  refine tE_seqS F hr fun r e1 hx v H1 fo1 fs1 o s F1 st1 tx nx => ?_
  split at hx
  · rename_i n hk
    obtain ⟨o1, s1, w1, nw1, _, _⟩ := tx.kept nx hk
    exact hx v σ H1 fo1 fs1 o1 s1 F1 st1 w1 nw1
  · exact hx.elim
theorem sem_retN : PSq X c W C WF (.Return none pos) .retN := by
  refine ps_retN.imp fun D σ H h => ?_
  obtain ⟨en, fo, fs, F, hr⟩ := h
  exact hr .non σ H fo fs [] [] F .refl (Own.atom (by rw [RO]; exact ⟨rfl, rfl, rfl⟩)) .nil
theorem sem_ex (G : Gd X c W) {e : Expr} {q : E} {pos : Pos} (he : PEq X c W C e q) (hs : swapsWith e none pos.line X.env = pure false) : PSq X c W C WF (.Expr e pos) (.ex q) := by
  refine (ps_expr he hs).imp fun D σ H h => ?_
  obtain ⟨en, fo, fs, F, hr⟩ := h
  have hr : ResS c W (KS c (muE q) en H fo fs D) ((ev C q en).bind fun _ e1 => .ok .nx e1) := hr
  exact tE_seqS F hr fun r e1 hx v H1 fo1 fs1 o s F1 st1 tx nx => hx σ H1 fo1 fs1 F1 st1
theorem sem_ite2 (G : Gd X c W) {t : Expr} {q : E} {a b : List Stmt} {qa qb : SL} {pos : Pos} (ht : PTq X c W C t q) (ha : PSsq X c W C WF a qa) (hb : PSsq X c W C WF b qb) : PSq X c W C WF (.If t a b pos) (.ite q qa qb) := by
  refine (ps_if ht ha hb).imp fun D σ H h => ?_
  obtain ⟨en, fo, fs, F, hr⟩ := h
  have hr : ResS c W (KS c (muE q ++ muSs qa ++ muSs qb) en H fo fs D) ((evB C q en).bind fun t e1 => if t then exs C WF qa e1 else exs C WF qb e1) := hr
  refine tT_seqS F hr fun b e1 hx H1 fo1 fs1 F1 st => ?_
  cases b with
  | true => rw [if_pos rfl] at hx ⊢; exact tS_after F1 hx st (fun i h => inL i (inL i h)) fun i h => inL i (inR i h)
  | false => rw [if_neg Bool.false_ne_true] at hx ⊢; exact tS_after F1 hx st (fun i h => inL i (inL i h)) inR
theorem sem_snil : PSsq X c W C WF [] .nil := by
  refine pss_nil.imp fun D σ H h => ?_
  obtain ⟨en, fo, fs, F, hr⟩ := h
  exact hr σ H fo fs F .refl
theorem sem_scons {st : Stmt} {sts : List Stmt} {q : S} {qs : SL} (h1 : PSq X c W C WF st q) (h2 : PSsq X c W C WF sts qs) : PSsq X c W C WF (st :: sts) (.cons q qs) := by
  refine (pss_cons h1 h2).imp fun D σ H h => ?_
  obtain ⟨en, fo, fs, F, hr⟩ := h
  have hr : ResS c W (KS c (muS q ++ muSs qs) en H fo fs D) ((ex C WF q en).bind fun fl e1 => match fl with
    | .nx => exs C WF qs e1
    | .rt d k => .ok (.rt d k) e1) := hr
  refine ⟨en, fo, fs, F, ?_⟩
  cases hq : ex C WF q en with
  | stuck => rw [hq] at hr; exact hr
  | exc x e1 => rw [hq] at hr; exact hr
  | ok fl e1 =>
    rw [hq, Out.bind_ok] at hr
    cases fl with
    | nx => exact fun σ' H' fo' fs' F' st' => tS_after F' hr st' inL inR
    | rt d k => exact fun v σ' H' fo' fs' o s F' st' w nw => hr v σ' H' fo' fs' o s F' (st'.mono inL) w (nw.mono inL)
/-! loops -/
theorem fls_res {mu : List Nat} {en : En} {H : Hp} {fo fs : FP} {D : Ends} {o : Out QQ.Fl} {f : En → Out QQ.Fl} (h : ResS c W (KS c mu en H fo fs D) (fls o f)) :
    ResS c W (fun fl eb => match fl with
      | .nx => ResS c W (KS c mu en H fo fs D) (f eb)
      | .rt d k => KS c mu en H fo fs D (.rt d k) eb) o := by
  unfold fls at h
  cases o with
  | stuck => exact h
  | exc x e1 => exact h
  | ok fl e1 =>
    rw [Out.bind_ok] at h
    cases fl with
    | nx => exact h
    | rt d k => exact h
theorem sem_forR (G : Gd X c W) {g : Pat} {qi : QQ.IT} {qb : SL} {body : List Stmt} (hv : ∀ i, i ∈ ptL g → ∀ p ∈ c.iov, p.1 ≠ i) (hgt : isPair qi = false ∨ ∃ ps, g = .tp ps) {D : Ends} {σ : L2.St} {H : Hp}
    (h : tSt c W (muS (.for_ g qi qb)) (ex C WF (.for_ g qi qb)) D σ H) : tFor (tIt c (isPair qi) W (muI qi) (evI C qi)) (gPt X.K g) (tSt c W (muSs qb) (exs C WF qb)) D σ H := by
  obtain ⟨en, fo, fs, F, hr⟩ := h
  have hr : ResS c W (KS c (muI qi ++ ptL g ++ muSs qb) en H fo fs D) ((evI C qi en).bind fun r e1 => if (r.2.all fun i => !(ptL g ++ muSs qb).contains i) then
      forL (fun d e => match bindP g d e with
        | some e' => exs C WF qb e'
        | none => .stuck) r.1 e1
    else .stuck) := hr
  refine tI_seqS F hr fun r e1 hx J H1 fo1 fs1 F1 st1 stand => ?_
  split at hx
  · rename_i hroots
    have hro : ∀ i, i ∈ r.2 → i ∉ ptL g ++ muSs qb := fun i hi => by
      have := List.all_eq_true.mp hroots i hi
      simpa using this
    have mI : ∀ i, i ∈ muI qi → i ∈ muI qi ++ ptL g ++ muSs qb := fun i h => inL i (inL i h)
    have mP : ∀ i, i ∈ ptL g → i ∈ muI qi ++ ptL g ++ muSs qb := fun i h => inL i (inR i h)
    have mB : ∀ i, i ∈ muSs qb → i ∈ muI qi ++ ptL g ++ muSs qb := fun i h => inR i h
    have w : Walk J r.1.length (fun H2 => ∃ e2 fo2 fs2 σ2, FR c e2 σ2 H2 fo2 fs2 ∧ Stp (ptL g ++ muSs qb) e1 e2 H1 H2 fo1 fs1 fo2 fs2) (fun i H2 x H' => J.yld i H2 x H') :=
      ⟨fun i H2 hi ⟨e2, fo2, fs2, σ2, F2, s2⟩ => ((stand _ e2 H2 fo2 fs2 σ2 hro F2 s2).1 i _ (List.getElem?_eq_getElem hi)).1, fun H2 ⟨e2, fo2, fs2, σ2, F2, s2⟩ => (stand _ e2 H2 fo2 fs2 σ2 hro F2 s2).2, fun _ _ _ _ _ _ y => y⟩
    refine for_it w (fun i σ2 H2 => ∃ e2 fo2 fs2, FR c e2 σ2 H2 fo2 fs2 ∧ Step (muI qi ++ ptL g ++ muSs qb) en e2 H H2 fo fs fo2 fs2 ∧ Stp (ptL g ++ muSs qb) e1 e2 H1 H2 fo1 fs1 fo2 fs2 ∧
      ResS c W (KS c (muI qi ++ ptL g ++ muSs qb) en H fo fs D) (forL (fun d e => match bindP g d e with
        | some e' => exs C WF qb e'
        | none => .stuck) (r.1.drop i) e2)) ?_ ?_ ?_ ?_
    · exact ⟨e1, fo1, fs1, F1, st1.mono mI, (Step.refl (mu := ptL g ++ muSs qb)).weak, by rw [List.drop_zero]; exact hx⟩
    · rintro i σ2 H2 _ ⟨e2, fo2, fs2, F2, _, sp2, _⟩
      exact ⟨e2, fo2, fs2, σ2, F2, sp2⟩
    · rintro i x σ2 H2 H' hi ⟨e2, fo2, fs2, F2, st2, sp2, res2⟩ y
      have hd : r.1[i]? = some r.1[i] := List.getElem?_eq_getElem hi
      have itm := ((stand _ e2 H2 fo2 fs2 _ hro F2 sp2).1 i _ hd).2 x H' y
      rw [drop_cons hd] at res2
      have res2 := fls_res (o := match bindP g r.1[i] e2 with
        | some e' => exs C WF qb e'
        | none => .stuck) res2
      cases hb : bindP g r.1[i] e2 with
      | none => rw [hb] at res2; exact res2.elim
      | some e' =>
        rw [hb] at res2
        refine item_ok G.hK itm hgt hb F2 st2 mP hv fun σ3 fo3 fs3 s3 F3 st3 p3 bf3 stl => ?_
        have sp3 := (sp2.trans (stl.weak.mono (by simp))).trans (p3.stp.mono inL)
        refine ⟨e', fo3, fs3, F3, res2.imp fun fl eb hb' => ?_⟩
        cases fl with
        | nx => exact fun σ4 H4 fo4 fs4 F4 st4 => ⟨eb, fo4, fs4, F4, st3.trans (st4.mono mB), sp3.trans (st4.weak.mono inR), hb'⟩
        | rt d k => exact fun v σ4 H4 fo4 fs4 o s F4 st4 w4 n4 => hb' v σ4 H4 fo4 fs4 o s F4 (st3.trans (st4.mono mB)) w4 ((n4.mono mB).back st3 fun _ h => h)
    · rintro σ2 H2 ⟨e2, fo2, fs2, F2, st2, sp2, res2⟩
      rw [List.drop_length] at res2
      exact res2 σ2 H2 fo2 fs2 F2 st2
  · exact hx.elim
theorem sem_for (G : Gd X c W) (hp : PassesOwn (model X.prog X.w) X.A X.env X.xe) {tg iter : Expr} {body : List Stmt} {g : Pat} {qi : QQ.IT} {qb : SL} {pos : Pos} (hi : PIq X c W C tg iter qi) (hg : PG X tg (gPt X.K g)) (hb : PSsq X c W C WF body qb) (hs : ∀ x, foldedSetIterable iter X.env x = pure x)
    (hv : ∀ i, i ∈ ptL g → ∀ p ∈ c.iov, p.1 ≠ i) (hgt : isPair qi = false ∨ ∃ ps, g = .tp ps) : PSq X c W C WF (.For tg iter body [] pos) (.for_ g qi qb) :=
  (ps_for hp G.hc hi hg hb hs).imp fun D σ H h => sem_forR (body := body) G hv hgt h
theorem sem_while (G : Gd X c W) (hp : PassesOwn (model X.prog X.w) X.A X.env X.xe) {t : Expr} {q : E} {body : List Stmt} {qb : SL} {pos : Pos} (ht : PTq X c W C t q) (hb : PSsq X c W C WF body qb) : PSq X c W C WF (.While t body [] pos) (.whl q qb) := by
  refine (ps_while hp ht hb).imp fun D σ H h => ?_
  obtain ⟨en, fo, fs, F, hr⟩ := h
  have hr : ResS c W (KS c (muE q ++ muSs qb) en H fo fs D) (whlL (evB C q) (exs C WF qb) WF en) := hr
  refine ⟨fun m σ2 H2 => ∃ e2 fo2 fs2, FR c e2 σ2 H2 fo2 fs2 ∧ Step (muE q ++ muSs qb) en e2 H H2 fo fs fo2 fs2 ∧ ResS c W (KS c (muE q ++ muSs qb) en H fo fs D) (whlL (evB C q) (exs C WF qb) m e2), ⟨WF, en, fo, fs, F, .refl, hr⟩, ?_⟩
  rintro m σ2 H2 ⟨e2, fo2, fs2, F2, st2, res2⟩
  cases m with
  | zero => exact res2.elim
  | succ m =>
    have res2 : ResS c W (KS c (muE q ++ muSs qb) en H fo fs D) ((evB C q e2).bind fun b e1 => if b then fls (exs C WF qb e1) fun e2 => whlL (evB C q) (exs C WF qb) m e2 else .ok .nx e1) := res2
    refine tT_seqS F2 res2 fun b e3 hx H3 fo3 fs3 F3 st3 => ?_
    cases b with
    | false =>
      rw [if_neg Bool.false_ne_true] at hx ⊢
      exact hx σ2 H3 fo3 fs3 F3 (st2.trans (st3.mono inL))
    | true =>
      rw [if_pos rfl] at hx ⊢
      have hx := fls_res hx
      refine ⟨fun σ4 H4 => ∃ e4 fo4 fs4, FR c e4 σ4 H4 fo4 fs4 ∧ Step (muE q ++ muSs qb) en e4 H H4 fo fs fo4 fs4 ∧ ResS c W (KS c (muE q ++ muSs qb) en H fo fs D) (whlL (evB C q) (exs C WF qb) m e4), fun σ4 H4 h => ⟨m, Nat.lt_succ_self _, h⟩, e3, fo3, fs3, F3, hx.imp fun fl eb hb' => ?_⟩
      have st23 := st2.trans (st3.mono inL)
      cases fl with
      | nx => exact fun σ4 H4 fo4 fs4 F4 st4 => ⟨eb, fo4, fs4, F4, st23.trans (st4.mono inR), hb'⟩
      | rt d k => exact fun v σ4 H4 fo4 fs4 o s F4 st4 w4 n4 => hb' v σ4 H4 fo4 fs4 o s F4 (st23.trans (st4.mono inR)) w4 ((n4.mono inR).back st23 fun _ h => h)
/-! (a, b) = value -/
theorem sem_asgtR (G : Gd X c W) {ps : List Pat} {q : E} (hv : ∀ i, i ∈ ptL (.tp ps) → ∀ p ∈ c.iov, p.1 ≠ i) {D : Ends} {σ : L2.St} {H : Hp}
    (h : tSt c W (muS (.asg (.tp ps) q)) (ex C WF (.asg (.tp ps) q)) D σ H) : tE c W (muE q) (ev C q) σ H fun x H1 => gPt X.K (.tp ps) x σ H1 D.nx := by
  obtain ⟨en, fo, fs, F, hr⟩ := h
  have hr : ResS c W (KS c (muE q ++ ptL (.tp ps)) en H fo fs D) ((ev C q en).bind fun r e1 => match keepK r with
      | some _ => opt (bindP (.tp ps) r.1 e1)
      | none => .stuck) := hr
  refine tE_seqS F hr fun r e1 hx v H1 fo1 fs1 o s F1 st1 tx nx => ?_
  split at hx
  · rename_i n hk
    obtain ⟨o1, s1, w1, nw1, _, _⟩ := tx.kept nx hk
    obtain ⟨o2, s2, w2, nw2, _, _⟩ := w1.weak (Nat.zero_le _) nw1
    have e0 : o2 = [] := RO.zero _ v o2 s2 w2.ro
    subst e0
    cases hb : bindP (.tp ps) r.1 e1 with
    | none => rw [hb] at hx; exact hx.elim
    | some e2 =>
      rw [hb] at hx
      exact bind_ok (mu := muE q ++ ptL (.tp ps)) G.hK (.tp ps) hb F1 (st1.mono inL) inR hv w2.ro (fun a ha => ⟨w2.sf a ha, w2.ss a ha, nw2.2 a ha⟩) fun σ' fo' fs' F' st' _ => hx σ' H1 fo' fs' F' st'
  · exact hx.elim
theorem sem_asgt (G : Gd X c W) {tg e : Expr} {ps : List Pat} {q : E} {pos : Pos} (he : PEq X c W C e q) (hg : PG X tg (gPt X.K (.tp ps))) (hs : swapsWithSole [tg] e pos.line X.env = pure false) (hw : swappedStores [tg] e X.env = pure none)
    (h1 : (assignEach [tg] X.env).map (·.2) = [assign tg X.env]) (hv : ∀ i, i ∈ ptL (.tp ps) → ∀ p ∈ c.iov, p.1 ≠ i) : PSq X c W C WF (.Assign [tg] e pos) (.asg (.tp ps) q) :=
  (ps_asg he hg hs hw h1).imp fun D σ H h => sem_asgtR G hv h
/-! a, b = x, y -/
theorem sem_parR (G : Gd X c W) : ∀ (is : List Nat) {rs : List (QQ.D × Kd)} {vs : List V} {O S : List Addr} {en0 e e2 : En} {σ : L2.St} {H0 H : Hp} {fo0 fs0 fo fs : FP} {mu : List Nat} {Q : L2.St → Hp → Prop}, asgNs is rs e = some e2 → FR c e σ H fo fs → Step mu en0 e H0 H fo0 fs0 fo fs →
    (∀ i, i ∈ is → i ∈ mu) → (∀ i, i ∈ is → ∀ p ∈ c.iov, p.1 ≠ i) → TVs c e σ H fo fs rs vs O S → New mu H0 fo0 fs0 O S → (∀ r, r ∈ rs → ∃ n, r.2 = .own n) →
    (∀ σ' fo' fs', FR c e2 σ' H fo' fs' → Step mu en0 e2 H0 H fo0 fs0 fo' fs' → σ' = (is.zip vs).foldl (fun s p => s.set p.1 (some p.2)) σ → Q σ' H) → Q ((is.zip vs).foldl (fun s p => s.set p.1 (some p.2)) σ) H
  | [], [], vs, O, S, en0, e, e2, σ, H0, H, fo0, fs0, fo, fs, mu, Q, ha, F, st, hm, hv, ts, nw, hk, k => by
    cases ha
    exact k σ fo fs F st rfl
  | [], _ :: _, _, _, _, _, _, _, _, _, _, _, _, _, _, _, _, ha, _, _, _, _, _, _, _, _ => nomatch ha
  | _ :: _, [], _, _, _, _, _, _, _, _, _, _, _, _, _, _, _, ha, _, _, _, _, _, _, _, _ => nomatch ha
  | i :: is, r :: rs, vs, O, S, en0, e, e2, σ, H0, H, fo0, fs0, fo, fs, mu, Q, ha, F, st, hm, hv, ts, nw, hk, k => by
    obtain ⟨v, vs', o, s, O', S', rfl, t, ts', rfl, rfl, d1, d2⟩ := ts
    have ha : (asgN i r e).bind (fun e1 => asgNs is rs e1) = some e2 := ha
    cases h1 : asgN i r e with
    | none => rw [h1] at ha; cases ha
    | some em =>
      rw [h1] at ha
      have ha : asgNs is rs em = some e2 := ha
      have nwo : New mu H0 fo0 fs0 o s := ⟨fun a h => nw.1 a (List.mem_append_left _ h), fun a h => nw.2 a (List.mem_append_left _ h)⟩
      have nwO : New mu H0 fo0 fs0 O' S' := ⟨fun a h => nw.1 a (List.mem_append_right _ h), fun a h => nw.2 a (List.mem_append_right _ h)⟩
      obtain ⟨m, hkm⟩ := hk r (List.mem_cons_self ..)
      obtain ⟨d, kd⟩ := r
      have hkm : kd = .own m := hkm
      subst hkm
      have t : Own c H fo fs d m v o s := t
      obtain ⟨o2, s2, w2, nw2, i1, i2⟩ := t.weak (flag_le d m) nwo
      have hl : i < e.length ∧ em = e.set i (some (d, flagOf d m)) := by
        have h1 : (if i < e.length then some (e.set i (some (d, flagOf d m))) else none) = some em := h1
        split at h1
        · rename_i hl; cases h1; exact ⟨hl, rfl⟩
        · cases h1
      obtain ⟨hl, rfl⟩ := hl
      obtain ⟨F', st'⟩ := put_own F st (hm i (List.mem_cons_self ..)) hl (hv i (List.mem_cons_self ..)) w2 nw2
      -- the others wait
      have wait : ∀ {rs : List (QQ.D × Kd)} {vs : List V} {O S : List Addr}, TVs c e σ H fo fs rs vs O S → (∀ r, r ∈ rs → ∃ n, r.2 = .own n) → (∀ a, a ∈ O → a ∉ o2 ∧ a ∉ s2) → (∀ a, a ∈ S → a ∉ o2) →
          TVs c (e.set i (some (d, flagOf d m))) (σ.set i (some v)) H (updF fo i o2) (updF fs i s2) rs vs O S := by
        intro rs
        induction rs with
        | nil => intro vs O S ts _ _ _; exact ts
        | cons r rs ih =>
          intro vs O S ts hk a1 a2
          obtain ⟨v', vs', o', s', O', S', e1, t', ts', e2, e3, d1, d2⟩ := ts
          subst e1 e2 e3
          obtain ⟨m', hm'⟩ := hk r (List.mem_cons_self ..)
          obtain ⟨d', kd'⟩ := r
          have hm' : kd' = .own m' := hm'
          subst hm'
          have t' : Own c H fo fs d' m' v' o' s' := t'
          have q1 : ∀ a, a ∈ o' → a ∉ o2 ∧ a ∉ s2 := fun a h => a1 a (List.mem_append_left _ h)
          have q2 : ∀ a, a ∈ s' → a ∉ o2 := fun a h => a2 a (List.mem_append_left _ h)
          refine ⟨v', vs', o', s', O', S', rfl, ⟨t'.ro, t'.nd, t'.os, fun a h j => ?_, fun a h j => ?_, t'.so, t'.ss⟩, ih ts' (fun r hr => hk r (List.mem_cons_of_mem _ hr)) (fun a h => a1 a (List.mem_append_right _ h)) (fun a h => a2 a (List.mem_append_right _ h)), rfl, rfl, d1, d2⟩
          · by_cases hj : j = i
            · subst hj; rw [updF_same, updF_same]; exact q1 a h
            · rw [updF_ne hj, updF_ne hj]; exact t'.of a h j
          · by_cases hj : j = i
            · subst hj; rw [updF_same]; exact q2 a h
            · rw [updF_ne hj]; exact t'.sf a h j
      have ts2 := wait ts' (fun r hr => hk r (List.mem_cons_of_mem _ hr)) (fun a h => ⟨fun z => (d1 a (i1 a z)).1 h, fun z => (i2 a z).elim (fun y => d2 a y h) fun y => (d1 a y).1 h⟩) fun a h z => (d1 a (i1 a z)).2 h
      exact sem_parR G is ha F' st' (fun j h => hm j (List.mem_cons_of_mem _ h)) (fun j h => hv j (List.mem_cons_of_mem _ h)) ts2 nwO (fun r hr => hk r (List.mem_cons_of_mem _ hr)) k
theorem sem_par2 (G : Gd X c W) {i j : Nat} {x y : Str} {a b : Expr} {qs : EL} {px py pt pos : Pos} {kt k2 pt2} (hi : X.N[i]? = some x) (hj : X.N[j]? = some y) (hij : i ≠ j) (hx : X.env.scope.names.lookup x = some .local) (hy : X.env.scope.names.lookup y = some .local) (ha : PAq X c W C [a, b] qs)
    (hw : swappedStores [.Tuple [.Name x px, .Name y py] kt pt] (.Tuple [a, b] k2 pt2) X.env = pure (some [x, y])) (hs : swapsWithSole [.Tuple [.Name x px, .Name y py] kt pt] (.Tuple [a, b] k2 pt2) pos.line X.env = pure false) (hv : ∀ k, k ∈ [i, j] → ∀ p ∈ c.iov, p.1 ≠ k) :
    PSq X c W C WF (.Assign [.Tuple [.Name x px, .Name y py] kt pt] (.Tuple [a, b] k2 pt2) pos) (.par [i, j] qs) := by
  refine (ps_par G.hc G.hN hi hj hij hx hy ha hw hs).imp fun D σ H h => ?_
  obtain ⟨en, fo, fs, F, hr⟩ := h
  have hr : ResS c W (KS c (muL qs ++ [i, j]) en H fo fs D) ((evL C qs en).bind fun rs e1 => if rs.all ownK then opt (asgNs [i, j] rs e1) else .stuck) := hr
  refine tA_seqS F hr fun rs e1 he hx vs H1 fo1 fs1 O S F1 st ts nw => ?_
  split at hx
  · rename_i hk
    cases h2 : asgNs [i, j] rs e1 with
    | none => rw [h2] at hx; exact hx.elim
    | some e2 =>
      rw [h2] at hx
      have key := sem_parR (Q := fun σ' H' => D.nx σ' H') G [i, j] h2 F1 (st.mono inL) (fun k h => inR k h) hv ts (nw.mono inL) (fun r hr => by
        have := List.all_eq_true.mp hk r hr
        obtain ⟨d, kd⟩ := r
        cases kd with
        | own n => exact ⟨n, rfl⟩
        | root _ _ _ => cases this) fun σ' fo' fs' F' st' _ => hx σ' H1 fo' fs' F' st'
      have hl := ts.len
      have hl2 : rs.length = 2 := by
        cases rs with
        | nil => cases h2
        | cons r1 rs => cases rs with
          | nil => rw [show asgNs [i, j] [r1] e1 = ((asgN i r1 e1).bind fun e => none) from rfl] at h2; cases hq : asgN i r1 e1 <;> rw [hq] at h2 <;> cases h2
          | cons r2 rs => cases rs with
            | nil => rfl
            | cons r3 rs =>
              rw [show asgNs [i, j] (r1 :: r2 :: r3 :: rs) e1 = ((asgN i r1 e1).bind fun e => (asgN j r2 e).bind fun e => none) from rfl] at h2
              cases hq : asgN i r1 e1 with
              | none => rw [hq] at h2; cases h2
              | some e =>
                rw [hq] at h2
                have h2 : ((asgN j r2 e).bind fun e => (none : Option En)) = some e2 := h2
                cases hq2 : asgN j r2 e <;> rw [hq2] at h2 <;> cases h2
      rw [hl2] at hl
      match vs, hl with
      | [v, w], _ => exact ⟨v, w, rfl, key⟩
  · exact hx.elim
/-! x[k] = v -/
theorem set_split {α : Type} : ∀ {xs : List α} {j : Nat} {x : α}, j < xs.length → xs.set j x = xs.take j ++ x :: xs.drop (j + 1)
  | [], j, x, h => by simp at h
  | y :: xs, 0, x, h => rfl
  | y :: xs, j + 1, x, h => by
    rw [List.set_cons_succ, List.take_succ_cons, List.drop_succ_cons, List.cons_append, set_split (by simpa using h)]
theorem sem_set1 (G : Gd X c W) {e a : Expr} {qe qa : E} {i : Nat} {x : Str} {p tp pos : Pos} (ho : PE X (.Name x p) (tVar i)) (he : PEq X c W C e qe) (ha : PEq X c W C a qa)
    (hg : ∀ {to ti : TE} {t : TSet}, PE X (.Name x p) to → PE X a ti → PSet X t → PG X (.Subscript (.Name x p) a tp) (gSub to ti t)) (hs : swapsWithSole [.Subscript (.Name x p) a tp] e pos.line X.env = pure false) (hw : swappedStores [.Subscript (.Name x p) a tp] e X.env = pure none)
    (h1 : (assignEach [.Subscript (.Name x p) a tp] X.env).map (·.2) = [assign (.Subscript (.Name x p) a tp) X.env]) : PSq X c W C WF (.Assign [.Subscript (.Name x p) a tp] e pos) (.set i (.cons qa .nil) qe) := by
  refine (ps_asg he (hg ho ha set_list) hs hw h1).imp fun D σ H h => ?_
  obtain ⟨en, fo, fs, F, hr⟩ := h
  have hr : ResS c W (KS c (i :: (muE qe ++ muL (.cons qa .nil))) en H fo fs D) ((ev C qe en).bind fun r e1 => if isLst e1 i && !(muL (.cons qa .nil)).contains i then (evL C (.cons qa .nil) e1).bind fun rs e2 => if pend r (muL (.cons qa .nil)) && (keepK r).isSome then opt (setS i (dsOf rs) r e2) else .stuck else .stuck) := hr
  refine tE_seqS F hr fun r e1 hx v H1 fo1 fs1 o1 s1 F1 st1 tx nx => ?_
  split at hx
  · rename_i hz
    rw [Bool.and_eq_true] at hz
    have hmu : i ∉ muL (.cons qa .nil) := by simpa using hz.2
    obtain ⟨xs0, n0, e0⟩ := isLst_of hz.1
    obtain ⟨va, hva, r0⟩ := F1.rel i _ _ e0
    refine ⟨va, hva, ?_⟩
    have hx2 : ResS c W (KS c (i :: (muE qe ++ muL (.cons qa .nil))) en H fo fs D) ((ev C qa e1).bind fun ra e2 => if pend ra (muL .nil) then (if pend r (muL (.cons qa .nil)) && (keepK r).isSome then opt (setS i [ra.1] r e2) else .stuck) else .stuck) := by
      have hx : ResS c W (KS c (i :: (muE qe ++ muL (.cons qa .nil))) en H fo fs D) (((ev C qa e1).bind fun r e1 => (Out.ok [] e1).bind fun rs e2 => if pend r (muL .nil) then Out.ok (r :: rs) e2 else .stuck).bind fun rs e2 => if pend r (muL (.cons qa .nil)) && (keepK r).isSome then opt (setS i (dsOf rs) r e2) else .stuck) := hx
      cases hq : ev C qa e1 with
      | stuck => rw [hq] at hx; exact hx
      | exc x e => rw [hq] at hx; exact hx
      | ok ra e2 =>
        rw [hq] at hx
        rw [Out.bind_ok] at hx ⊢
        rw [Out.bind_ok] at hx
        cases hp : pend ra (muL .nil) with
        | false => rw [hp] at hx; exact hx.elim
        | true => rw [hp] at hx; exact hx
    refine tE_seqS F1 hx2 fun ra e2 hy w H2 fo2 fs2 o2 s2 F2 st2 ta na => ?_
    have st2' : Step (muL (.cons qa .nil)) e1 e2 H1 H2 fo1 fs1 fo2 fs2 := st2.mono fun i h => inL i h
    split at hy
    · split at hy
      · rename_i hk
        rw [Bool.and_eq_true] at hk
        have tx2 := tx.carry F1 st2' hk.1
        have st12 := st1.seq st2'
        unfold setS at hy
        split at hy
        · rename_i d n e2'
          split at hy
          · rename_i hok
            unfold setOk at hok
            rw [Bool.and_eq_true] at hok
            have hn : 1 ≤ n := of_decide_eq_true hok.1
            obtain ⟨m, rfl⟩ : ∃ m, n = m + 1 := ⟨n - 1, by omega⟩
            have hd0 : d = .list xs0 := by
              have q := st2'.val i hmu
              rw [e2', e0] at q
              exact Option.some.inj q
            subst hd0
            obtain ⟨d2, kd2⟩ := ra
            have hy : ResS c W (KS c (i :: (muE qe ++ muL (.cons qa .nil))) en H fo fs D) (opt ((setD (.list xs0) d2 r.1).map fun d' => e2.set i (some (d', m + 1)))) := hy
            cases d2 with
            | int k =>
              cases hj : ixN xs0.length k with
              | none =>
                have : setD (.list xs0) (.int k) r.1 = none := by show (ixN xs0.length k).bind _ = none; rw [hj]; rfl
                rw [this] at hy; exact hy.elim
              | some j =>
                have hjl := (ixN_seq hj).2.1
                have hsd : setD (.list xs0) (.int k) r.1 = some (.list (xs0.set j r.1)) := by
                  show (ixN xs0.length k).bind _ = _
                  rw [hj]
                  show (if j < xs0.length then some (PyData.list (xs0.set j r.1)) else none) = _
                  rw [if_pos hjl]
                rw [hsd] at hy
                have hy : KS c (i :: (muE qe ++ muL (.cons qa .nil))) en H fo fs D .nx (e2.set i (some (.list (xs0.set j r.1), m + 1))) := hy
                obtain ⟨aa, ws, oo, hva2, haa, eo, rr⟩ := F2.ownList e2'
                rw [hva] at hva2
                cases hva2
                have dk : depOk m r = true := by
                  obtain ⟨dr, kr⟩ := r
                  unfold depOk
                  have h2 := hok.2
                  rw [Bool.or_eq_true] at h2 ⊢
                  refine h2.imp id fun h2 => ?_
                  cases kr with
                  | own q => have h3 : m + 1 - 1 ≤ q := of_decide_eq_true h2; exact decide_eq_true (by omega)
                  | root _ _ _ => cases h2
                obtain ⟨oy, sy, yo, nyo⟩ := tx2.keptD nx dk
                have hdj : xs0[j]? = some xs0[j] := List.getElem?_eq_getElem hjl
                -- the old item leaves
                obtain ⟨oa, sa, ob, sb, q1, q2, eoo, ess⟩ := rr.split j
                rw [drop_cons hdj] at q2
                obtain ⟨w0, vs0, od, sd, oc, sc, ev0, r1, r2, eob, esb⟩ := q2.cons'
                have hwj : j < ws.length := by rw [← rr.len']; exact hjl
                have hvs0 : vs0 = ws.drop (j + 1) := by
                  have := drop_cons (List.getElem?_eq_getElem hwj)
                  rw [ev0] at this
                  exact (List.cons.inj this).2
                rw [hvs0] at r2
                have rnew : ROs c H2 (xs0.set j r.1) m (ws.set j v) (oa ++ (oy ++ oc)) (sa ++ (sy ++ sc)) := by
                  rw [set_split hjl, set_split hwj]
                  exact ROs.app _ _ _ _ _ _ _ _ _ q1 (ROs.mkCons yo.ro r2)
                have nda := F2.nd i
                rw [eo] at nda
                have ndo := (List.nodup_cons.mp nda).2
                have sub : ∀ b, b ∈ oa ++ oc → b ∈ oo := fun b hb => by
                  rw [eoo, eob]
                  simp only [List.mem_append] at hb ⊢
                  rcases hb with hb | hb
                  · exact .inl hb
                  · exact .inr (.inr hb)
                have nd2 : (oa ++ oc).Nodup := by
                  rw [eoo, eob] at ndo
                  rw [List.nodup_append] at ndo ⊢
                  exact ⟨ndo.1, (List.nodup_append.mp ndo.2.1).2.1, fun a ha b hb => ndo.2.2 a ha b (List.mem_append_right _ hb)⟩
                have yof : ∀ b, b ∈ oy → b ∉ oo := fun b hb z => (yo.of b hb i).1 (by rw [eo]; exact List.mem_cons_of_mem _ z)
                refine ⟨aa, ws, k, j, rfl, ta.intV rfl, haa, by rw [← rr.len']; exact hj, ?_⟩
                refine mu_end (mu := muE qe ++ muL (.cons qa .nil)) (Q := fun _ H' => D.nx σ H') (d := .none) (w := .non) (od := []) (sd := []) (n := m) F2 st12 e2' hva haa eo rnew (by rw [RO]; exact ⟨rfl, rfl, rfl⟩) ?_ ?_ ?_ ?_ fun v' H' fo' fs' o' s' F' st' _ _ => hy σ H' fo' fs' F' st'
                · rw [List.append_nil]
                  have p : List.Perm (oa ++ (oy ++ oc)) (oy ++ (oa ++ oc)) := by
                    rw [← List.append_assoc, ← List.append_assoc]
                    exact List.Perm.append_right _ List.perm_append_comm
                  exact p.nodup_iff.mpr (List.nodup_append.mpr ⟨yo.nd, nd2, fun a ha b hb e => yof a ha (sub a (e ▸ hb))⟩)
                · rw [List.append_nil]
                  intro b hb
                  have hb' : b ∈ oa ++ oc ∨ b ∈ oy := by
                    simp only [List.mem_append] at hb ⊢
                    rcases hb with hb | hb | hb
                    · exact .inl (.inl hb)
                    · exact .inr hb
                    · exact .inl (.inr hb)
                  rcases hb' with hb' | hb'
                  · exact .inl (sub b hb')
                  · exact .inr ⟨fun j => yo.of b hb' j, (nyo.1 b hb').imp id fun ⟨j, h, z⟩ => ⟨j, inL j h, z⟩, yo.so b hb'⟩
                · rw [List.append_nil]
                  intro b hb
                  have hb' : b ∈ fs2 i ∨ b ∈ sy := by
                    rw [ess, esb]
                    simp only [List.mem_append] at hb ⊢
                    rcases hb with hb | hb | hb
                    · exact .inl (.inl hb)
                    · exact .inr hb
                    · exact .inl (.inr (.inr hb))
                  exact hb'.imp id fun hb' => ⟨fun j => yo.sf b hb' j, nyo.2 b hb', yo.ss b hb'⟩
                · rw [List.append_nil, List.append_nil]
                  intro b hb hn z
                  have hb' : b ∈ oa ++ oc ∨ b ∈ oy := by
                    simp only [List.mem_append] at hb ⊢
                    rcases hb with hb | hb | hb
                    · exact .inl (.inl hb)
                    · exact .inr hb
                    · exact .inl (.inr hb)
                  have hz' : b ∈ fs2 i ∨ b ∈ sy := by
                    rw [ess, esb]
                    simp only [List.mem_append] at z ⊢
                    rcases z with z | z | z
                    · exact .inl (.inl z)
                    · exact .inr z
                    · exact .inl (.inr (.inr z))
                  rcases hb' with hb' | hb'
                  · exact hn i (by rw [eo]; exact List.mem_cons_of_mem _ (sub b hb'))
                  · rcases hz' with z | z
                    · exact (yo.of b hb' i).2 z
                    · exact yo.os b hb' z
            | none => exact hy.elim
            | bool _ => exact hy.elim
            | str _ => exact hy.elim
            | list _ => exact hy.elim
            | tuple _ => exact hy.elim
            | dict _ => exact hy.elim
          · exact hy.elim
        · exact hy.elim
      · exact hy.elim
    · exact hy.elim
  · exact hx.elim
/-! x o= v -/
def tiA (o : BO) : TIp := fun x y H Q => ∃ d1 d2 d, augD o d1 d2 = some d ∧ (d1 matches .int _ ∨ d1 matches .str _) ∧ (∀ n, d1 = .int n → x = .int n) ∧ (∀ n, d1 = .str n → x = .str n) ∧ (∀ n, d2 = .int n → y = .int n) ∧ (∀ n, d2 = .str n → y = .str n) ∧ (∀ n, d = .int n → Q (.int n) H) ∧ ∀ n, d = .str n → Q (.str n) H
theorem ip_aug (G : Gd X c W) (o : BO) (ho : o ≠ .pow) : PIp X (opB o) (tiA o) := by
  intro pins s σ H x y v u Q I rx ry h
  obtain ⟨d1, d2, d, e, hd, x1, x2, y1, y2, q1, q2⟩ := h
  have hn := lim
  cases d1 with
  | int i =>
    have ex := x1 i rfl
    cases d2 with
    | int j =>
      have ey := y1 j rfl
      have e : binD o (.int i) (.int j) = some d := e
      unfold binD at e
      cases o with
      | pow => exact absurd rfl ho
      | add => cases e; exact iop_add pins s σ H x y v u Q I rx ry ⟨_, _, ex, ey, q1 _ rfl⟩
      | sub => cases e; exact iop_sub pins s σ H x y v u Q I rx ry ⟨_, _, ex, ey, q1 _ rfl⟩
      | mul =>
        dsimp only at e
        split at e
        · rename_i hz
          cases e
          simp only [Bool.or_eq_true, Bool.and_eq_true, decide_eq_true_eq] at hz
          exact iop_mul pins s σ H x y v u Q I rx ry ⟨_, _, ex, ey, hz, q1 _ rfl⟩
        · cases e
      | fdiv =>
        dsimp only at e
        split at e
        · rename_i hz
          cases e
          simp only [Bool.and_eq_true, decide_eq_true_eq] at hz
          exact iop_fdiv pins s σ H x y v u Q I rx ry ⟨_, _, ex, ey, hz, q1 _ rfl⟩
        · cases e
      | mod =>
        dsimp only at e
        split at e
        · rename_i hz
          cases e
          exact iop_mod pins s σ H x y v u Q I rx ry ⟨_, _, ex, ey, of_decide_eq_true hz, q1 _ rfl⟩
        · cases e
      | shl =>
        dsimp only at e
        split at e
        · rename_i hz
          cases e
          simp only [Bool.and_eq_true, decide_eq_true_eq] at hz
          exact iop_shl pins s σ H x y v u Q I rx ry ⟨_, _, ex, ey, ⟨hz.1.1, hz.1.2, hz.2⟩, q1 _ rfl⟩
        · cases e
      | shr =>
        dsimp only at e
        split at e
        · rename_i hz
          cases e
          exact iop_shr pins s σ H x y v u Q I rx ry ⟨_, _, ex, ey, of_decide_eq_true hz, q1 _ rfl⟩
        · cases e
      | band => cases e; exact iop_and pins s σ H x y v u Q I rx ry ⟨_, _, ex, ey, q1 _ rfl⟩
      | bor => cases e; exact iop_or pins s σ H x y v u Q I rx ry ⟨_, _, ex, ey, q1 _ rfl⟩
      | bxor => cases e; exact iop_xor pins s σ H x y v u Q I rx ry ⟨_, _, ex, ey, q1 _ rfl⟩
    | _ => cases e
  | str i =>
    have ex := x2 i rfl
    cases d2 with
    | str j =>
      have ey := y2 j rfl
      have e : binD o (.str i) (.str j) = some d := e
      unfold binD at e
      cases o with
      | add =>
        dsimp only at e
        split at e
        · rename_i hz
          cases e
          exact iop_add_str pins s σ H x y v u Q I rx ry ⟨_, _, ex, ey, by rw [lim]; exact hz, q2 _ rfl⟩
        · cases e
      | _ => cases e
    | _ => cases e
  | _ => rcases hd with h | h <;> cases h
theorem sem_aug (G : Gd X c W) {e : Expr} {q : E} {i : Nat} {x : Str} {o : BO} {p pos : Pos} (hi : X.N[i]? = some x) (hx : Loc X.env.scope x) (he : PEq X c W C e q) (hf : X.fn x = true ∨ X.env.scope.names.lookup x = some .local) (hv : ∀ p ∈ c.iov, p.1 ≠ i) (ho : o ≠ .pow) :
    PSq X c W C WF (.AugAssign (.Name x p) (opB o) e pos) (.aug i o q) := by
  refine (ps_aug G.hN hi hx he (ip_aug G o ho) hf).imp fun D σ H h => ?_
  obtain ⟨en, fo, fs, F, hr⟩ := h
  have hr : ResS c W (KS c (i :: muE q) en H fo fs D) (match en[i]? with
      | some (some (x, 0)) => if isAug o x && !(muE q).contains i then (ev C q en).bind fun y e1 => match augD o x y.1 with
            | some d => opt (asgN i (d, .own 0) e1)
            | none => .stuck
          else .stuck
      | _ => .stuck) := hr
  split at hr
  · rename_i d1 e0
    split at hr
    · rename_i hz
      rw [Bool.and_eq_true] at hz
      obtain ⟨v, hva, r0⟩ := F.rel i _ _ e0
      refine ⟨v, hva, tE_seqS F hr fun y e1 hy w H1 fo1 fs1 o1 s1 F1 st1 ty ny => ?_⟩
      cases hd : augD o d1 y.1 with
      | none => rw [hd] at hy; exact hy.elim
      | some d =>
        rw [hd] at hy
        cases ha : asgN i (d, .own 0) e1 with
        | none =>
          have hy : ResS c W (KS c (i :: muE q) en H fo fs D) (opt (asgN i (d, .own 0) e1)) := hy
          rw [ha] at hy; exact hy.elim
        | some e2 =>
          have hy : ResS c W (KS c (i :: muE q) en H fo fs D) (opt (asgN i (d, .own 0) e1)) := hy
          rw [ha] at hy
          obtain ⟨t1, q1⟩ := ty.read
          have fin : ∀ {z : V}, (∀ H, RO c H d 0 z [] []) → D.nx (σ.set i (some z)) H1 := fun {z} hz => by
            obtain ⟨fo2, fs2, F2, st2⟩ := asg_ok (mu := i :: muE q) (r := (d, .own 0)) (v := z) (o := []) (s := []) F1 (st1.mono fun j h => List.mem_cons_of_mem _ h) (List.mem_cons_self ..) hv (Own.atom (hz H1)) .nil ha
            exact hy _ _ _ _ F2 st2
          refine ⟨d1, y.1, d, hd, ?_, fun n e => by subst e; exact r0.intV, fun n e => by subst e; exact r0.strV, fun n e => by rw [e] at q1; exact q1.intV, fun n e => by rw [e] at q1; exact q1.strV, fun n e => fin fun H => by rw [e, RO]; exact ⟨rfl, rfl, rfl⟩, fun n e => fin fun H => by rw [e, RO]; exact ⟨rfl, rfl, rfl⟩⟩
          unfold augD at hd
          split at hd
          · exact .inl rfl
          · exact .inr rfl
          · cases hd
    · exact hr.elim
  · exact hr.elim
end
end QQ
namespace QQ
open PySem L2

section
variable {c : Cb} {en : En} {σ : L2.St} {H : Hp} {fo fs : FP}
/-- a list within what the slot owns gets new items -/
theorem FR.mod (F : FR c en σ H fo fs) {i : Nat} {d d' : D} {n : Nat} {v : V} {b : Addr} {vs ws : List V} {o2 s2 : List Addr} (e : en[i]? = some (some (d, n))) (hv : σ[i]? = some (some v)) (ai : b ∈ fo i) (ha : H b = some (.lst vs))
    (r : RO c (upd H b (.lst ws)) d' n v o2 s2) (nd : o2.Nodup) (sub : ∀ a, a ∈ o2 → a ∈ fo i) (subs : ∀ a, a ∈ s2 → a ∈ fs i) : FR c (en.set i (some (d', n))) σ (upd H b (.lst ws)) (updF fo i o2) (updF fs i s2) := by
  have hi : i < en.length := by
    rcases Nat.lt_or_ge i en.length with h | h
    · exact h
    · rw [List.getElem?_eq_none h] at e; cases e
  exact {
    len := by rw [List.length_set]; exact F.len
    rel := fun j d'' n' e' => by
      by_cases hj : j = i
      · subst hj
        rw [List.getElem?_set_self hi] at e'
        cases e'
        rw [updF_same, updF_same]
        exact ⟨_, hv, r⟩
      · rw [List.getElem?_set_ne (Ne.symm hj)] at e'
        rw [updF_ne hj, updF_ne hj]
        obtain ⟨u, h1, h2⟩ := F.rel j d'' n' e'
        refine ⟨u, h1, RO.stab d'' n' u _ _ h2 (stab_write ha fun z => ?_)⟩
        have q := F.dj i j b ai
        rcases List.mem_append.mp z with z | z
        · exact q.2 (Ne.symm hj) z
        · exact q.1 z
    emp := fun j h => by
      by_cases hj : j = i
      · subst hj; exact absurd (List.getElem?_set_self hi) (h _)
      · rw [updF_ne hj, updF_ne hj]
        exact F.emp j fun p e => h p (by rw [List.getElem?_set_ne (Ne.symm hj)]; exact e)
    nd := fun j => by
      by_cases hj : j = i
      · subst hj; rw [updF_same]; exact nd
      · rw [updF_ne hj]; exact F.nd j
    dj := fun j k a hb => by
      have hb' : a ∈ fo j := by
        by_cases hj : j = i
        · subst hj; rw [updF_same] at hb; exact sub a hb
        · rw [updF_ne hj] at hb; exact hb
      have q := F.dj j k a hb'
      by_cases hk : k = i
      · subst hk; rw [updF_same, updF_same]; exact ⟨fun z => q.1 (subs a z), fun h z => q.2 h (sub a z)⟩
      · rw [updF_ne hk, updF_ne hk]; exact q
    so := fun j a hb => by
      by_cases hj : j = i
      · subst hj; rw [updF_same] at hb; exact F.so j a (sub a hb)
      · rw [updF_ne hj] at hb; exact F.so j a hb
    ss := fun j a hb => by
      by_cases hj : j = i
      · subst hj; rw [updF_same] at hb; exact F.ss j a (subs a hb)
      · rw [updF_ne hj] at hb; exact F.ss j a hb
    kp := fun a x e0 h t => by
      have hb : a ≠ b := fun z => by
        subst z
        rcases F.so i a ai with q | q
        · rw [e0] at q; cases q
        · exact h q
      rw [upd_ne hb]; exact F.kp a x e0 h t
    dm := fun a h => by
      by_cases hb : a = b
      · subst hb; rw [upd_same]; simp
      · rw [upd_ne hb]; exact F.dm a h
    iov := F.iov
    tb := tabs_keep F.tb fun a x e0 h => by
      have hb : a ≠ b := fun z => by subst z; rw [ha] at e0; cases e0; exact h _ rfl
      rw [upd_ne hb]; exact e0 }
theorem Step.mod {mu : List Nat} {en1 : En} {H1 : Hp} {fo1 fs1 : FP} (st : Step mu en en1 H H1 fo fs fo1 fs1) {i : Nat} {d' : D} {n : Nat} {b : Addr} {ws : List V} {o2 s2 : List Addr} (ai : b ∈ fo1 i)
    (sub : ∀ a, a ∈ o2 → a ∈ fo1 i) (subs : ∀ a, a ∈ s2 → a ∈ fs1 i) : Step (i :: mu) en (en1.set i (some (d', n))) H (upd H1 b (.lst ws)) fo fs (updF fo1 i o2) (updF fs1 i s2) where
  keep := fun a x e t k => by
    have hb : a ≠ b := fun z => by
      subst z
      rcases st.oo i a ai with z | ⟨_, z | ⟨j, hj, z⟩⟩
      · exact k i (List.mem_cons_self ..) z
      · rw [e] at z; cases z
      · exact k j (List.mem_cons_of_mem _ hj) z
    rw [upd_ne hb]; exact st.keep a x e t fun j hj => k j (List.mem_cons_of_mem _ hj)
  dom := fun a h => by
    by_cases hb : a = b
    · subst hb; rw [upd_same]; simp
    · rw [upd_ne hb]; exact st.dom a h
  oo := fun j a hb => by
    have hb' : a ∈ fo1 j := by
      by_cases hj : j = i
      · subst hj; rw [updF_same] at hb; exact sub a hb
      · rw [updF_ne hj] at hb; exact hb
    exact (st.oo j a hb').imp id fun ⟨h, r⟩ => ⟨List.mem_cons_of_mem _ h, r.imp id fun ⟨k, p, q⟩ => ⟨k, List.mem_cons_of_mem _ p, q⟩⟩
  ss := fun j a hb => by
    have hb' : a ∈ fs1 j := by
      by_cases hj : j = i
      · subst hj; rw [updF_same] at hb; exact subs a hb
      · rw [updF_ne hj] at hb; exact hb
    exact (st.ss j a hb').imp id fun r => r.imp id fun ⟨h, r⟩ => ⟨List.mem_cons_of_mem _ h, r⟩
  val := fun j hj => by
    have hj := notCons hj
    rw [List.getElem?_set_ne (Ne.symm hj.1)]
    exact st.val j hj.2
  all := fun j hj a hb => by
    have hj := notCons hj
    rw [updF_ne hj.1, updF_ne hj.1]; exact st.all j hj.2 a hb
  dep := fun j hj => by
    have hj := notCons hj
    unfold depthAt
    rw [List.getElem?_set_ne (Ne.symm hj.1)]
    exact st.dep j hj.2
/-- the list at the end of a path within a value -/
def Desc (H : Hp) : V → List Int → Addr → Prop
  | v, [], b => v = .ref b
  | v, k :: ks, b => ∃ a vs w, v = .ref a ∧ H a = some (.lst vs) ∧ atI vs k = some w ∧ Desc H w ks b
theorem atI_of {α : Type} {xs : List α} {k : Int} {x : α} (h : atI xs k = some x) : ∃ j, ixN xs.length k = some j ∧ j < xs.length ∧ xs[j]? = some x := by
  unfold atI at h
  cases e : ixN xs.length k with
  | none => rw [e] at h; cases h
  | some j => rw [e] at h; exact ⟨j, rfl, (ixN_seq e).2.1, h⟩
/-- the parts beside an item -/
theorem ROs.beside {m j : Nat} {xs : List D} {vs : List V} {o s : List Addr} (r : ROs c H xs m vs o s) (hj : j < xs.length) : ∃ w oa od ob sa sd sb, vs[j]? = some w ∧ RO c H xs[j] m w od sd ∧ o = oa ++ (od ++ ob) ∧ s = sa ++ (sd ++ sb) ∧ ROs c H (xs.take j) m (vs.take j) oa sa ∧ ROs c H (xs.drop (j + 1)) m (vs.drop (j + 1)) ob sb ∧
    ∀ H' d v oy sy, ROs c H' (xs.take j) m (vs.take j) oa sa → ROs c H' (xs.drop (j + 1)) m (vs.drop (j + 1)) ob sb → RO c H' d m v oy sy → ROs c H' (xs.set j d) m (vs.set j v) (oa ++ (oy ++ ob)) (sa ++ (sy ++ sb)) := by
  have hdj : xs[j]? = some xs[j] := List.getElem?_eq_getElem hj
  obtain ⟨oa, sa, ob, sb, q1, q2, eoo, ess⟩ := r.split j
  rw [drop_cons hdj] at q2
  obtain ⟨w0, vs0, od, sd, oc, sc, ev0, r1, r2, eob, esb⟩ := q2.cons'
  have hwj : j < vs.length := by rw [← r.len']; exact hj
  have e0 := drop_cons (List.getElem?_eq_getElem hwj)
  rw [ev0] at e0
  have ew : w0 = vs[j] := (List.cons.inj e0).1
  have ed : vs0 = vs.drop (j + 1) := (List.cons.inj e0).2
  rw [ed] at r2
  refine ⟨w0, oa, od, oc, sa, sd, sc, by rw [List.getElem?_eq_getElem hwj, ew], r1, by rw [eoo, eob], by rw [ess, esb], q1, r2, fun H' d v oy sy h1 h2 h3 => ?_⟩
  rw [set_split hj, set_split hwj]
  exact ROs.app _ _ _ _ _ _ _ _ _ h1 (ROs.mkCons h3 h2)
/-- a path's end is written: plain data goes in -/
theorem RO.setP {e : D} {w : V} (le : QQ.lf e = true) (re : ∀ b ws, H b = some (.lst ws) → ∀ xs, RO c (upd H b (.lst xs)) e 0 w [] []) : ∀ (p : List D) (d d' : D) (n : Nat) (v : V) (o s : List Addr), QQ.setP d p e = some d' → RO c H d n v o s → o.Nodup → (∀ a, a ∈ o → a ∉ s) → p.length ≤ n →
    ∃ ks k b ws j o2 s2, p = (ks ++ [k]).map PyData.int ∧ Desc H v ks b ∧ b ∈ o ∧ H b = some (.lst ws) ∧ ixN ws.length k = some j ∧ RO c (upd H b (.lst (ws.set j w))) d' n v o2 s2 ∧ o2.Nodup ∧ (∀ a, a ∈ o2 → a ∈ o) ∧ ∀ a, a ∈ s2 → a ∈ s
  | [], d, d', n, v, o, s, h, _, _, _, _ => by cases h
  | [i], d, d', n, v, o, s, h, r, nd, os, hn => by
    have h : setD d i e = some d' := h
    cases d with
    | list xs =>
      cases i with
      | int k =>
        have h : ((ixN xs.length k).bind fun j => if j < xs.length then some (PyData.list (xs.set j e)) else none) = some d' := h
        cases hj : ixN xs.length k with
        | none => rw [hj] at h; cases h
        | some j =>
          have hjl := (ixN_seq hj).2.1
          rw [hj] at h
          have h : (if j < xs.length then some (PyData.list (xs.set j e)) else none) = some d' := h
          rw [if_pos hjl] at h
          cases h
          obtain ⟨m, rfl⟩ : ∃ m, n = m + 1 := ⟨n - 1, by have : 1 ≤ n := hn; omega⟩
          rw [RO] at r
          obtain ⟨a, vs, rfl, ha, o', rr, rfl⟩ := r
          obtain ⟨w0, oa, od, ob, sa, sd, sb, hw0, r0, rfl, rfl, q1, q2, mk⟩ := rr.beside hjl
          have nda := List.nodup_cons.mp nd
          have nin : ∀ L : List Addr, (∀ z, z ∈ L → z ∈ oa ++ (od ++ ob) ∨ z ∈ sa ++ (sd ++ sb)) → a ∉ L := fun L hL z => (hL a z).elim nda.1 (os a (List.mem_cons_self ..))
          have inL : ∀ z, z ∈ oa ++ ob → z ∈ oa ++ (od ++ ob) := fun z hz => by
            simp only [List.mem_append] at hz ⊢
            exact hz.imp id .inr
          have inS : ∀ z, z ∈ sa ++ sb → z ∈ sa ++ (sd ++ sb) := fun z hz => by
            simp only [List.mem_append] at hz ⊢
            exact hz.imp id .inr
          have e1 := ROs.stab _ _ _ _ _ q1 (stab_write (x := .lst (vs.set j w)) ha (nin _ fun z hz => (List.mem_append.mp hz).imp (fun h => List.mem_append_left _ h) fun h => List.mem_append_left _ h))
          have e2 := ROs.stab _ _ _ _ _ q2 (stab_write (x := .lst (vs.set j w)) ha (nin _ fun z hz => (List.mem_append.mp hz).imp (fun h => List.mem_append_right _ (List.mem_append_right _ h)) fun h => List.mem_append_right _ (List.mem_append_right _ h)))
          have e3 : RO c (upd H a (.lst (vs.set j w))) e m w [] [] := (RO.lf e 0 m w [] [] le (re a vs ha _)).2.2
          have ndo := nda.2
          refine ⟨[], k, a, vs, j, a :: (oa ++ ([] ++ ob)), sa ++ ([] ++ sb), rfl, rfl, List.mem_cons_self .., ha, by rw [← rr.len']; exact hj, ?_, ?_, ?_, fun z hz => inS z hz⟩
          · rw [RO]; exact ⟨a, _, rfl, upd_same, _, mk _ _ _ _ _ e1 e2 e3, rfl⟩
          · refine List.nodup_cons.mpr ⟨fun z => nda.1 (inL a z), ?_⟩
            rw [List.nodup_append] at ndo
            refine List.nodup_append.mpr ⟨ndo.1, (List.nodup_append.mp ndo.2.1).2.1, fun x hx y hy => ndo.2.2 x hx y (List.mem_append_right _ hy)⟩
          · intro z hz
            rcases List.mem_cons.mp hz with hz | hz
            · rw [hz]; exact List.mem_cons_self ..
            · exact List.mem_cons_of_mem _ (inL z hz)
      | _ => cases h
    | _ => cases h
  | i :: i2 :: is, d, d', n, v, o, s, h, r, nd, os, hn => by
    have h : ((getD d i).bind fun e1 => (QQ.setP e1 (i2 :: is) e).bind fun e' => setD d i e') = some d' := h
    cases hg : getD d i with
    | none => rw [hg] at h; cases h
    | some e1 =>
      rw [hg] at h
      have h : ((QQ.setP e1 (i2 :: is) e).bind fun e' => setD d i e') = some d' := h
      cases hs : QQ.setP e1 (i2 :: is) e with
      | none => rw [hs] at h; cases h
      | some e' =>
        rw [hs] at h
        have h : setD d i e' = some d' := h
        cases d with
        | list xs =>
          cases i with
          | int k =>
            have h : ((ixN xs.length k).bind fun j => if j < xs.length then some (PyData.list (xs.set j e')) else none) = some d' := h
            cases hj : ixN xs.length k with
            | none => rw [hj] at h; cases h
            | some j =>
              have hjl := (ixN_seq hj).2.1
              rw [hj] at h
              have h : (if j < xs.length then some (PyData.list (xs.set j e')) else none) = some d' := h
              rw [if_pos hjl] at h
              cases h
              have hxe : xs[j] = e1 := by
                have hg : atI xs k = some e1 := hg
                unfold atI at hg
                rw [hj] at hg
                have hg : xs[j]? = some e1 := hg
                rw [List.getElem?_eq_getElem hjl] at hg
                exact Option.some.inj hg
              obtain ⟨m, rfl⟩ : ∃ m, n = m + 1 := ⟨n - 1, by have : (is.length + 1) + 1 ≤ n := hn; omega⟩
              rw [RO] at r
              obtain ⟨a, vs, rfl, ha, o', rr, rfl⟩ := r
              obtain ⟨w0, oa, od, ob, sa, sd, sb, hw0, r0, rfl, rfl, q1, q2, mk⟩ := rr.beside hjl
              rw [hxe] at r0
              have nda := List.nodup_cons.mp nd
              have ndo := List.nodup_append.mp nda.2
              have ndo2 := List.nodup_append.mp ndo.2.1
              obtain ⟨ks, kk, b, ws, j2, o2, s2, ep, hd, hb, hH, hix, r2, nd2, sub2, subs2⟩ := RO.setP le re (i2 :: is) e1 e' m w0 od sd hs r0 ndo2.1 (fun z hz hz' => os z (List.mem_cons_of_mem _ (List.mem_append_right _ (List.mem_append_left _ hz))) (List.mem_append_right _ (List.mem_append_left _ hz'))) (by have : (is.length + 1) + 1 ≤ m + 1 := hn; show is.length + 1 ≤ m; omega)
              have hab : a ≠ b := fun z => nda.1 (by rw [z]; exact List.mem_append_right _ (List.mem_append_left _ hb))
              have bO : b ∈ a :: (oa ++ (od ++ ob)) := List.mem_cons_of_mem _ (List.mem_append_right _ (List.mem_append_left _ hb))
              have e1' := ROs.stab _ _ _ _ _ q1 (stab_write (x := .lst (ws.set j2 w)) hH (fun z => by
                rcases List.mem_append.mp z with z | z
                · exact ndo.2.2 b z b (List.mem_append_left _ hb) rfl
                · exact os b bO (List.mem_append_left _ z)))
              have e2' := ROs.stab _ _ _ _ _ q2 (stab_write (x := .lst (ws.set j2 w)) hH (fun z => by
                rcases List.mem_append.mp z with z | z
                · exact ndo2.2.2 b hb b z rfl
                · exact os b bO (List.mem_append_right _ (List.mem_append_right _ z))))
              have hwl : j < vs.length := by rw [← rr.len']; exact hjl
              have hvs : vs.set j w0 = vs := by
                have : vs[j] = w0 := Option.some.inj ((List.getElem?_eq_getElem hwl).symm.trans hw0)
                rw [← this]; exact List.set_getElem_self hwl
              refine ⟨k :: ks, kk, b, ws, j2, a :: (oa ++ (o2 ++ ob)), sa ++ (s2 ++ sb), by rw [ep]; rfl, ⟨a, vs, w0, rfl, ha, ?_, hd⟩, bO, hH, hix, ?_, ?_, ?_, ?_⟩
              · unfold atI
                rw [← rr.len', hj]; exact hw0
              · rw [RO]
                refine ⟨a, vs, rfl, (upd_ne hab).trans ha, _, ?_, rfl⟩
                have := mk _ _ _ _ _ e1' e2' r2
                rw [hvs] at this
                exact this
              · refine List.nodup_cons.mpr ⟨fun z => nda.1 ?_, List.nodup_append.mpr ⟨ndo.1, List.nodup_append.mpr ⟨nd2, ndo2.2.1, fun x hx y hy => ndo2.2.2 x (sub2 x hx) y hy⟩, fun x hx y hy => ndo.2.2 x hx y ?_⟩⟩
                · simp only [List.mem_append] at z ⊢
                  exact z.imp id fun z => z.imp (sub2 a) id
                · simp only [List.mem_append] at hy ⊢
                  exact hy.imp (sub2 y) id
              · intro z hz
                rcases List.mem_cons.mp hz with hz | hz
                · rw [hz]; exact List.mem_cons_self ..
                · refine List.mem_cons_of_mem _ ?_
                  simp only [List.mem_append] at hz ⊢
                  exact hz.imp id fun hz => hz.imp (sub2 z) id
              · intro z hz
                simp only [List.mem_append] at hz ⊢
                exact hz.imp id fun hz => hz.imp (subs2 z) id
          | _ => cases h
        | _ => cases h
end
/-! ### several targets -/
def gLV (K : PySem.W.Frag) (c : Cb) (W : WX) (C : Orc) : LV → TG
  | .nm i => gName i
  | .sub i (.cons qa .nil) => gSub (tVar i) (tE c W (muE qa) (ev C qa)) rSetL
  | .sub i (.cons qa (.cons qb .nil)) => gSub (tOp (rIxL K) (tVar i) (tE c W (muE qa) (ev C qa))) (tE c W (muE qb) (ev C qb)) rSetL
  | .sub _ _ => fun _ _ _ _ => False
def gLVs (K : PySem.W.Frag) (c : Cb) (W : WX) (C : Orc) : List LV → TGs
  | [] => gNil
  | t :: ts => gCons (gLV K c W C t) (gLVs K c W C ts)
section
variable {K : PySem.W.Frag} {c : Cb} {W : WX} {C : Orc} {en0 e e1 e2 : En} {σ : L2.St} {H0 H H1 : Hp} {fo0 fs0 fo fs fo1 fs1 : FP} {mu : List Nat}
theorem ok_one {q : E} {rs : List (D × Kd)} (h : evL C (.cons q .nil) e = .ok rs e1) : ∃ r, rs = [r] ∧ ev C q e = .ok r e1 := by
  have h : ((ev C q e).bind fun r e1 => (Out.ok [] e1).bind fun rs e2 => if pend r (muL .nil) then Out.ok (r :: rs) e2 else .stuck) = .ok rs e1 := h
  cases hq : ev C q e with
  | stuck => rw [hq] at h; cases h
  | exc x e' => rw [hq] at h; cases h
  | ok r e' =>
    rw [hq, Out.bind_ok, Out.bind_ok] at h
    split at h
    · cases h; exact ⟨r, rfl, rfl⟩
    · cases h
theorem ok_two {q q2 : E} {rs : List (D × Kd)} (h : evL C (.cons q (.cons q2 .nil)) e = .ok rs e2) : ∃ r r2 e1, rs = [r, r2] ∧ ev C q e = .ok r e1 ∧ ev C q2 e1 = .ok r2 e2 ∧ pend r (muL (.cons q2 .nil)) = true := by
  have h : ((ev C q e).bind fun r e1 => (evL C (.cons q2 .nil) e1).bind fun rs e2 => if pend r (muL (.cons q2 .nil)) then Out.ok (r :: rs) e2 else .stuck) = .ok rs e2 := h
  cases hq : ev C q e with
  | stuck => rw [hq] at h; cases h
  | exc x e' => rw [hq] at h; cases h
  | ok r e' =>
    rw [hq, Out.bind_ok] at h
    cases hr : evL C (.cons q2 .nil) e' with
    | stuck => rw [hr] at h; cases h
    | exc x e' => rw [hr] at h; cases h
    | ok rs' e'' =>
      rw [hr, Out.bind_ok] at h
      split at h
      · rename_i hp
        cases h
        obtain ⟨r2, rfl, h2⟩ := ok_one hr
        exact ⟨r, r2, e', rfl, rfl, h2, hp⟩
      · cases h
theorem lf_keep {mu : List Nat} (F : FR c e σ H fo fs) (st : Step mu e e1 H H1 fo fs fo1 fs1) {d : D} {v : V} (r : RO c H d 0 v [] []) : RO c H1 d 0 v [] [] := RO.stab _ _ _ _ _ r (st.stab F fun a ha => by cases ha)
theorem sub_end {i : Nat} {d : D} {v : V} {is : List D} (F : FR c e1 σ H1 fo1 fs1) (st : Step mu en0 e1 H0 H1 fo0 fs0 fo1 fs1) (hi : i ∈ mu) (ld : lf d = true) (rd : RO c H1 d 0 v [] []) (h : setS i is (d, .own 0) e1 = some e2) :
    ∃ ks k b ws j va, is = (ks ++ [k]).map PyData.int ∧ σ[i]? = some (some va) ∧ Desc H1 va ks b ∧ H1 b = some (.lst ws) ∧ ixN ws.length k = some j ∧ (∃ fo2 fs2, FR c e2 σ (upd H1 b (.lst (ws.set j v))) fo2 fs2 ∧ Step mu en0 e2 H0 (upd H1 b (.lst (ws.set j v))) fo0 fs0 fo2 fs2) ∧ ∀ du u, RO c H1 du 0 u [] [] → RO c (upd H1 b (.lst (ws.set j v))) du 0 u [] [] := by
  unfold setS at h
  split at h
  · rename_i dd n he
    split at h
    · rename_i hok
      unfold setOk at hok
      have hn : is.length ≤ n := of_decide_eq_true (Bool.and_eq_true _ _ ▸ hok).1
      cases hs : QQ.setP dd is d with
      | none => rw [show QQ.setP dd is (d, Kd.own 0).1 = none from hs] at h; cases h
      | some d' =>
        rw [show QQ.setP dd is (d, Kd.own 0).1 = some d' from hs] at h
        cases h
        obtain ⟨va, hva, rr⟩ := F.rel i _ _ he
        obtain ⟨ks, k, b, ws, j, o2, s2, ep, hd, hb, hH, hix, r2, nd2, sub2, subs2⟩ := RO.setP ld (fun b ws hb xs => RO.stab _ _ _ _ _ rd (stab_write (x := .lst xs) hb (by simp))) is dd d' n va (fo1 i) (fs1 i) hs rr (F.nd i) (fun a ha => (F.dj i i a ha).1) hn
        exact ⟨ks, k, b, ws, j, va, ep, hva, hd, hH, hix, ⟨_, _, F.mod he hva hb hH r2 nd2 sub2 subs2, (st.mod (d' := d') (n := n) (ws := ws.set j v) hb sub2 subs2).mono fun z hz => (List.mem_cons.mp hz).elim (fun e => e ▸ hi) id⟩,
          fun du u r => RO.stab _ _ _ _ _ r (stab_write (x := .lst (ws.set j v)) hH (by simp))⟩
    · cases h
  · cases h
theorem one_map {x : D} {ks : List Int} {k : Int} (h : [x] = (ks ++ [k]).map PyData.int) : ks = [] ∧ x = .int k := by
  cases ks with
  | nil => exact ⟨rfl, (List.cons.inj h).1⟩
  | cons a ks => cases ks <;> simp at h
theorem two_map {x y : D} {ks : List Int} {k : Int} (h : [x, y] = (ks ++ [k]).map PyData.int) : ∃ k0, ks = [k0] ∧ x = .int k0 ∧ y = .int k := by
  cases ks with
  | nil => simp at h
  | cons a ks =>
    cases ks with
    | nil =>
      have h1 := List.cons.inj h
      exact ⟨a, rfl, h1.1, (List.cons.inj h1.2).1⟩
    | cons b ks => cases ks <;> simp at h
theorem ros_keep {ds : List D} {vs : List V} {H' : Hp} (hl : lfs ds = true) (k : ∀ d v, RO c H d 0 v [] [] → RO c H' d 0 v [] []) : ROs c H ds 0 vs [] [] → ROs c H' ds 0 vs [] [] := by
  induction ds generalizing vs with
  | nil => intro r; obtain ⟨rfl, _, _⟩ := r.nil'; exact .mkNil
  | cons d ds ih =>
    intro r
    have hl : (lf d && lfs ds) = true := hl
    rw [Bool.and_eq_true] at hl
    obtain ⟨v, vs', o1, s1, o2, s2, rfl, r1, r2, e1, e2⟩ := r.cons'
    have z1 := List.append_eq_nil_iff.mp e1.symm
    have z2 := List.append_eq_nil_iff.mp e2.symm
    rw [z1.1, z2.1] at r1
    rw [z1.2, z2.2] at r2
    exact ROs.mkCons (k _ _ r1) (ih hl.2 r2)
theorem asgLV_ok : ∀ (ts : List LV) (ds : List D) (e : En) (x : D) (e' : En), asgLV C ts ds e ≠ .exc x e'
  | [], [], e, x, e' => by intro h; cases h
  | [], _ :: _, e, x, e' => by intro h; cases h
  | .nm i :: ts, [], e, x, e' => by intro h; cases h
  | .sub i p :: ts, [], e, x, e' => by intro h; cases h
  | .nm i :: ts, d :: ds, e, x, e' => by
    intro h
    have h : (if i < e.length then asgLV C ts ds (e.set i (some (d, 0))) else .stuck) = .exc x e' := h
    split at h
    · exact asgLV_ok ts ds _ x e' h
    · cases h
  | .sub i p :: ts, d :: ds, e, x, e' => by
    intro h
    have h : (if isLst e i && !(muL p).contains i then match evL C p e with
      | .ok rs e1 => match setS i (dsOf rs) (d, .own 0) e, setS i (dsOf rs) (d, .own 0) e1 with
        | some _, some e2 => asgLV C ts ds e2
        | _, _ => .stuck
      | _ => .stuck
    else .stuck) = .exc x e' := h
    split at h
    · split at h
      · split at h
        · exact asgLV_ok ts ds _ x e' h
        · cases h
      · cases h
    · cases h
theorem slot_data {i : Nat} {xs : List D} {n : Nat} (h : (e1[i]?.bind id).map Prod.fst = (e[i]?.bind id).map Prod.fst) (he : e[i]? = some (some (.list xs, n))) : ∃ n1, e1[i]? = some (some (.list xs, n1)) := by
  rw [he] at h
  cases h1 : e1[i]? with
  | none => rw [h1] at h; cases h
  | some o =>
    rw [h1] at h
    cases o with
    | none => cases h
    | some p =>
      obtain ⟨d, n1⟩ := p
      have h : some d = some (PyData.list xs) := h
      cases h
      exact ⟨n1, rfl⟩
theorem sub1_read {i : Nat} {qa : E} {d : D} {v : V} {rs : List (D × Kd)} {Q : L2.St → Hp → Prop} (F : FR c e σ H fo fs) (st : Step mu en0 e H0 H fo0 fs0 fo fs) (hi : i ∈ mu) (hmp : ∀ j, j ∈ muE qa → j ∈ mu) (ld : lf d = true) (rd : RO c H d 0 v [] []) (hl : isLst e i = true) (hev : evL C (.cons qa .nil) e = .ok rs e1) (hset : setS i (dsOf rs) (d, .own 0) e1 = some e2)
    (k : ∀ H' fo' fs', FR c e2 σ H' fo' fs' → Step mu en0 e2 H0 H' fo0 fs0 fo' fs' → (∀ du u, RO c H du 0 u [] [] → RO c H' du 0 u [] []) → Q σ H') : gLV K c W C (.sub i (.cons qa .nil)) v σ H Q := by
  obtain ⟨xs0, n0, e0⟩ := isLst_of hl
  obtain ⟨va, hva, r0⟩ := F.rel i _ _ e0
  obtain ⟨ra, rfl, hq⟩ := ok_one hev
  refine ⟨va, hva, e, fo, fs, F, ?_⟩
  rw [hq]
  intro w H1 fo1 fs1 o s F1 st1 t nw
  have st1' := st.trans (st1.mono hmp)
  obtain ⟨ks, kk, b, ws, j, vb, ep, hvb, hd, hH, hix, ⟨fo2, fs2, F2, st2⟩, kp⟩ := sub_end F1 st1' hi ld (lf_keep F st1 rd) hset
  obtain ⟨rfl, hk⟩ := one_map ep
  rw [hva] at hvb
  cases hvb
  have hd : va = .ref b := hd
  exact ⟨b, ws, kk, j, hd, t.intV hk, hH, hix, k _ _ _ F2 st2 fun du u r => kp du u (lf_keep F st1 r)⟩
theorem sub2_read {i : Nat} {qa qb : E} {d : D} {v : V} {rs : List (D × Kd)} {Q : L2.St → Hp → Prop} (F : FR c e σ H fo fs) (st : Step mu en0 e H0 H fo0 fs0 fo fs) (hi : i ∈ mu) (hma : ∀ j, j ∈ muE qa → j ∈ mu) (hmb : ∀ j, j ∈ muE qb → j ∈ mu) (ia : i ∉ muE qa) (ib : i ∉ muE qb) (ld : lf d = true) (rd : RO c H d 0 v [] []) (hl : isLst e i = true) (hev : evL C (.cons qa (.cons qb .nil)) e = .ok rs e1) {e20 : En} (hset0 : setS i (dsOf rs) (d, .own 0) e = some e20) (hset : setS i (dsOf rs) (d, .own 0) e1 = some e2)
    (k : ∀ H' fo' fs', FR c e2 σ H' fo' fs' → Step mu en0 e2 H0 H' fo0 fs0 fo' fs' → (∀ du u, RO c H du 0 u [] [] → RO c H' du 0 u [] []) → Q σ H') : gLV K c W C (.sub i (.cons qa (.cons qb .nil))) v σ H Q := by
  obtain ⟨xs0, n0, e0⟩ := isLst_of hl
  obtain ⟨va, hva, r0⟩ := F.rel i _ _ e0
  obtain ⟨ra, rb, em, rfl, hqa, hqb, hpd⟩ := ok_two hev
  refine ⟨va, hva, e, fo, fs, F, ?_⟩
  rw [hqa]
  intro w H1 fo1 fs1 o s F1 st1 t nw
  have st1' := st.trans (st1.mono hma)
  obtain ⟨n1, em0⟩ := slot_data (st1.val i ia) e0
  obtain ⟨vb, hvb, r1⟩ := F1.rel i _ _ em0
  rw [hva] at hvb
  cases hvb
  obtain ⟨a, vs, rfl, ha⟩ : ∃ a vs, va = .ref a ∧ H1 a = some (.lst vs) := by
    cases n1 with
    | zero => rw [RO] at r1; obtain ⟨a, vs, h1, h2, _⟩ := r1; exact ⟨a, vs, h1, h2⟩
    | succ m => rw [RO] at r1; obtain ⟨a, vs, h1, h2, _⟩ := r1; exact ⟨a, vs, h1, h2⟩
  have hat : ∀ k y, atI xs0 k = some y → ∃ w1, atI vs k = some w1 := fun k y hy => by
    have hlen : xs0.length = vs.length := by
      cases n1 with
      | zero => rw [RO] at r1; obtain ⟨a', vs', h1, h2, s', r2, _⟩ := r1; cases h1; rw [ha] at h2; cases h2; exact r2.len'
      | succ m => rw [RO] at r1; obtain ⟨a', vs', h1, h2, s', r2, _⟩ := r1; cases h1; rw [ha] at h2; cases h2; exact r2.len'
    obtain ⟨j, hj, hjl, _⟩ := atI_of hy
    have hjv : j < vs.length := by rw [← hlen]; exact hjl
    have hj2 : ixN vs.length k = some j := by rw [← hlen]; exact hj
    exact ⟨vs[j], by unfold atI; rw [hj2]; exact List.getElem?_eq_getElem hjv⟩
  -- the store, as it stands ahead
  have look : ∃ k0 k1 w1, ra.1 = .int k0 ∧ rb.1 = .int k1 ∧ atI vs k0 = some w1 := by
    unfold setS at hset0
    rw [e0] at hset0
    have hset0 : (if setOk n0 (dsOf [ra, rb]).length (d, .own 0) = true then (QQ.setP (.list xs0) [ra.1, rb.1] d).map fun d' => e.set i (some (d', n0)) else none) = some e20 := hset0
    split at hset0
    · obtain ⟨da, ka⟩ := ra
      obtain ⟨db, kb⟩ := rb
      have hset0 : (((getD (.list xs0) da).bind fun e1 => (setD e1 db d).bind fun e' => setD (.list xs0) da e').map fun d' => e.set i (some (d', n0))) = some e20 := hset0
      cases da with
      | int k0 =>
        have hset0 : (((atI xs0 k0).bind fun e1 => (setD e1 db d).bind fun e' => setD (.list xs0) (.int k0) e').map fun d' => e.set i (some (d', n0))) = some e20 := hset0
        cases hy : atI xs0 k0 with
        | none => rw [hy] at hset0; cases hset0
        | some y =>
          rw [hy] at hset0
          have hset0 : (((setD y db d).bind fun e' => setD (.list xs0) (.int k0) e').map fun d' => e.set i (some (d', n0))) = some e20 := hset0
          obtain ⟨w1, hw1⟩ := hat k0 y hy
          cases y with
          | list ys =>
            cases db with
            | int k1 => exact ⟨k0, k1, w1, rfl, rfl, hw1⟩
            | _ => cases hset0
          | _ => cases hset0
      | _ => cases hset0
    · cases hset0
  obtain ⟨k0, k1, w1, hk0, hk1, hw1⟩ := look
  refine ⟨a, vs, k0, w1, rfl, t.intV hk0, .inl (.inl ha), hw1, em, fo1, fs1, F1, ?_⟩
  rw [hqb]
  intro wb H2 fo2 fs2 o' s' F2 st2 t2 nw2
  have st2' := st1'.trans (st2.mono hmb)
  obtain ⟨ks, kk, b, ws, j, vb, ep, hvb, hd, hH, hix, ⟨fo3, fs3, F3, st3⟩, kp⟩ := sub_end F2 st2' hi ld (lf_keep F1 st2 (lf_keep F st1 rd)) hset
  obtain ⟨k2, rfl, hk2, hk3⟩ := two_map ep
  rw [hva] at hvb
  cases hvb
  rw [hk0] at hk2
  cases hk2
  obtain ⟨a', vs', w', e1', e2', e3', e4'⟩ := hd
  cases e1'
  have hkeep : H2 a = some (.lst vs) := by
    have dep := st2.dep i ib
    have h2 : 2 ≤ depthAt e1 i := by
      unfold setS at hset
      split at hset
      · rename_i dd n he
        split at hset
        · rename_i hok
          unfold setOk at hok
          have hn : 2 ≤ n := of_decide_eq_true (Bool.and_eq_true _ _ ▸ hok).1
          unfold depthAt; rw [he]; exact hn
        · cases hset
      · cases hset
    have h3 : depthAt em i = n1 := by unfold depthAt; rw [em0]
    have hn1 : 2 ≤ n1 := by omega
    obtain ⟨m, rfl⟩ : ∃ m, n1 = m + 1 := ⟨n1 - 1, by omega⟩
    rw [RO] at r1
    obtain ⟨a9, vs9, h1, h2', o9, r9, eo⟩ := r1
    cases h1
    refine st2.keep a _ ha (fun ps z => by cases z) fun j hj => ?_
    have hij : i ≠ j := fun z => ib (z ▸ hj)
    exact (F1.dj i j a (by rw [eo]; exact List.mem_cons_self ..)).2 hij
  rw [hkeep] at e2'
  cases e2'
  rw [hw1] at e3'
  cases e3'
  exact ⟨b, ws, kk, j, e4', t2.intV hk3, hH, hix, k _ _ _ F3 st3 fun du u r => kp du u (lf_keep F1 st2 (lf_keep F st1 r))⟩
def shortLV : LV → Bool
  | .nm _ => true
  | .sub _ (.cons _ .nil) => true
  | .sub _ (.cons _ (.cons _ .nil)) => true
  | _ => false
theorem asgLV_len : ∀ (ts : List LV) (ds : List D) (e e' : En), asgLV C ts ds e = .ok () e' → ds.length = ts.length
  | [], [], e, e', h => rfl
  | [], _ :: _, e, e', h => by cases h
  | .nm i :: ts, [], e, e', h => by cases h
  | .sub i p :: ts, [], e, e', h => by cases h
  | .nm i :: ts, d :: ds, e, e', h => by
    have h : (if i < e.length then asgLV C ts ds (e.set i (some (d, 0))) else .stuck) = .ok () e' := h
    split at h
    · rw [List.length_cons, List.length_cons, asgLV_len ts ds _ e' h]
    · cases h
  | .sub i p :: ts, d :: ds, e, e', h => by
    have h : (if isLst e i && !(muL p).contains i then match evL C p e with
      | .ok rs e1 => match setS i (dsOf rs) (d, .own 0) e, setS i (dsOf rs) (d, .own 0) e1 with
        | some _, some e2 => asgLV C ts ds e2
        | _, _ => .stuck
      | _ => .stuck
    else .stuck) = .ok () e' := h
    split at h
    · split at h
      · split at h
        · rw [List.length_cons, List.length_cons, asgLV_len ts ds _ e' h]
        · cases h
      · cases h
    · cases h
theorem lvs_read : ∀ (ts : List LV) {ds : List D} {vs : List V} {e e' : En} {σ : L2.St} {H : Hp} {fo fs : FP} {Q : L2.St → Hp → Prop}, ts.all shortLV = true → lfs ds = true → asgLV C ts ds e = .ok () e' → FR c e σ H fo fs → Step mu en0 e H0 H fo0 fs0 fo fs → (∀ i, i ∈ muV ts → i ∈ mu) → (∀ i, LV.nm i ∈ ts → ∀ p ∈ c.iov, p.1 ≠ i) →
    ROs c H ds 0 vs [] [] → (∀ σ' H' fo' fs', FR c e' σ' H' fo' fs' → Step mu en0 e' H0 H' fo0 fs0 fo' fs' → Q σ' H') → gLVs K c W C ts vs σ H Q
  | [], [], vs, e, e', σ, H, fo, fs, Q, hs, hl, h, F, st, hm, hv, r, k => by
    cases h
    obtain ⟨rfl, _, _⟩ := r.nil'
    exact ⟨rfl, k σ H fo fs F st⟩
  | [], _ :: _, vs, e, e', σ, H, fo, fs, Q, hs, hl, h, F, st, hm, hv, r, k => by cases h
  | .nm i :: ts, [], vs, e, e', σ, H, fo, fs, Q, hs, hl, h, F, st, hm, hv, r, k => by cases h
  | .sub i p :: ts, [], vs, e, e', σ, H, fo, fs, Q, hs, hl, h, F, st, hm, hv, r, k => by cases h
  | .nm i :: ts, d :: ds, vs, e, e', σ, H, fo, fs, Q, hs, hl, h, F, st, hm, hv, r, k => by
    have h : (if i < e.length then asgLV C ts ds (e.set i (some (d, 0))) else .stuck) = .ok () e' := h
    have hl : (lf d && lfs ds) = true := hl
    rw [Bool.and_eq_true] at hl
    have hs := (Bool.and_eq_true _ _ ▸ (show (shortLV _ && ts.all shortLV) = true from hs))
    obtain ⟨v, vs', o1, s1, o2, s2, rfl, r1, r2, e1, e2⟩ := r.cons'
    have z1 := List.append_eq_nil_iff.mp e1.symm
    have z2 := List.append_eq_nil_iff.mp e2.symm
    rw [z1.1, z2.1] at r1
    rw [z1.2, z2.2] at r2
    split at h
    · rename_i hi
      obtain ⟨F', st'⟩ := put_item F st (hm i (List.mem_cons_self ..)) hi (hv i (List.mem_cons_self ..)) r1 Sh.nil
      exact ⟨v, vs', rfl, lvs_read ts hs.2 hl.2 h F' st' (fun j hj => hm j (List.mem_cons_of_mem _ hj)) (fun j hj => hv j (List.mem_cons_of_mem _ hj)) r2 k⟩
    · cases h
  | .sub i p :: ts, d :: ds, vs, e, e', σ, H, fo, fs, Q, hs, hl, h, F, st, hm, hv, r, k => by
    have h : (if isLst e i && !(muL p).contains i then match evL C p e with
      | .ok rs e1 => match setS i (dsOf rs) (d, .own 0) e, setS i (dsOf rs) (d, .own 0) e1 with
        | some _, some e2 => asgLV C ts ds e2
        | _, _ => .stuck
      | _ => .stuck
    else .stuck) = .ok () e' := h
    have hl : (lf d && lfs ds) = true := hl
    rw [Bool.and_eq_true] at hl
    have hs := (Bool.and_eq_true _ _ ▸ (show (shortLV _ && ts.all shortLV) = true from hs))
    obtain ⟨v, vs', o1, s1, o2, s2, rfl, r1, r2, e1, e2⟩ := r.cons'
    have z1 := List.append_eq_nil_iff.mp e1.symm
    have z2 := List.append_eq_nil_iff.mp e2.symm
    rw [z1.1, z2.1] at r1
    rw [z1.2, z2.2] at r2
    have hm2 : ∀ j, j ∈ muV ts → j ∈ mu := fun j hj => hm j (List.mem_cons_of_mem _ (List.mem_append_right _ hj))
    have hmp : ∀ j, j ∈ muL p → j ∈ mu := fun j hj => hm j (List.mem_cons_of_mem _ (List.mem_append_left _ hj))
    have hmi : i ∈ mu := hm i (List.mem_cons_self ..)
    split at h
    · rename_i hz
      rw [Bool.and_eq_true] at hz
      have hmu : i ∉ muL p := by simpa using hz.2
      cases hev : evL C p e with
      | stuck => rw [hev] at h; cases h
      | exc x e9 => rw [hev] at h; cases h
      | ok rs e1 =>
        rw [hev] at h
        have h : (match setS i (dsOf rs) (d, .own 0) e, setS i (dsOf rs) (d, .own 0) e1 with
          | some _, some e2 => asgLV C ts ds e2
          | _, _ => .stuck) = .ok () e' := h
        cases hset0 : setS i (dsOf rs) (d, .own 0) e with
        | none => rw [hset0] at h; cases h
        | some e20 =>
        cases hset : setS i (dsOf rs) (d, .own 0) e1 with
        | none => rw [hset0, hset] at h; cases h
        | some e2 =>
          rw [hset0, hset] at h
          have h : asgLV C ts ds e2 = .ok () e' := h
          refine ⟨v, vs', rfl, ?_⟩
          have next : ∀ H' fo' fs', FR c e2 σ H' fo' fs' → Step mu en0 e2 H0 H' fo0 fs0 fo' fs' → (∀ du u, RO c H du 0 u [] [] → RO c H' du 0 u [] []) → gLVs K c W C ts vs' σ H' Q := fun H' fo' fs' F' st' kp =>
            lvs_read ts hs.2 hl.2 h F' st' hm2 (fun j hj => hv j (List.mem_cons_of_mem _ hj)) (ros_keep hl.2 kp r2) k
          cases p with
          | nil => cases hs.1
          | cons qa p =>
            cases p with
            | nil => exact sub1_read F st hmi (fun j hj => hmp j (List.mem_append_left _ hj)) hl.1 r1 hz.1 hev hset next
            | cons qb p =>
              cases p with
              | nil => exact sub2_read F st hmi (fun j hj => hmp j (List.mem_append_left _ hj)) (fun j hj => hmp j (List.mem_append_right _ (List.mem_append_left _ hj))) (fun z => hmu (List.mem_append_left _ z)) (fun z => hmu (List.mem_append_right _ (List.mem_append_left _ z))) hl.1 r1 hz.1 hev hset0 hset next
              | cons _ _ => cases hs.1
    · cases h
end
end QQ
namespace QQ
open PySem L2
section
variable {X : Cx} {c : Cb} {W : WX} {C : Orc} {WF : Nat}
theorem sem_asgm (G : Gd X c W) {ts : List Expr} {lvs : List LV} {q : E} {e : Expr} {kt : Nat} {pt pos : Pos} (he : PEq X c W C e q) (hg : PGs X ts (gLVs X.K c W C lvs)) (hn : (assignEach ts X.env).length = lvs.length) (hst : (assignEach ts X.env).findIdx? (·.1) = none)
    (hs : swapsWithSole [.Tuple ts kt pt] e pos.line X.env = pure false) (hw : swappedStores [.Tuple ts kt pt] e X.env = pure none) (hsh : lvs.all shortLV = true) (hv : ∀ i, LV.nm i ∈ lvs → ∀ p ∈ c.iov, p.1 ≠ i) : PSq X c W C WF (.Assign [.Tuple ts kt pt] e pos) (.asgm lvs q) := by
  refine (ps_asg he (pg_tup G.hc hg hn hst) hs hw rfl).imp fun D σ H h => ?_
  obtain ⟨en, fo, fs, F, hr⟩ := h
  have hr : ResS c W (KS c (muE q ++ muV lvs) en H fo fs D) ((ev C q en).bind fun r e1 => match r.1, keepK r with
      | .tuple ds, some _ => if lfs ds then (asgLV C lvs ds e1).bind fun _ e2 => .ok .nx e2 else .stuck
      | _, _ => .stuck) := hr
  refine tE_seqS F hr fun r e1 hx v H1 fo1 fs1 o s F1 st1 tx nx => ?_
  split at hx
  · rename_i ds n hd hk
    split at hx
    · rename_i hl
      obtain ⟨o1, s1, w1, nw1, _, _⟩ := tx.kept nx hk
      rw [hd] at w1
      have ro := w1.ro
      rw [RO] at ro
      obtain ⟨a, vs, rfl, sq, rr⟩ := ro
      obtain ⟨_, _, r0⟩ := ROs.lf ds n 0 vs o1 s1 hl rr
      cases ha : asgLV C lvs ds e1 with
      | stuck => rw [ha] at hx; exact hx.elim
      | exc x e9 => exact absurd ha (asgLV_ok lvs ds e1 x e9)
      | ok u e2 =>
        rw [ha] at hx
        have hx : KS c (muE q ++ muV lvs) en H fo fs D .nx e2 := hx
        have ll : vs.length = lvs.length := by
          rw [← r0.len']
          exact asgLV_len lvs ds e1 e2 ha
        exact ⟨a, vs, rfl, G.hK ▸ sq.1, ll, lvs_read (mu := muE q ++ muV lvs) lvs hsh hl ha F1 (st1.mono inL) (fun i hi => inR i hi) hv r0 fun σ' H' fo' fs' F' st' => hx σ' H' fo' fs' F' st'⟩
    · exact hx.elim
  · exact hx.elim
theorem asgNs_len : ∀ {is : List Nat} {rs : List (QQ.D × Kd)} {e e2 : En}, asgNs is rs e = some e2 → rs.length = is.length
  | [], [], _, _, _ => rfl
  | [], _ :: _, _, _, h => nomatch h
  | _ :: _, [], _, _, h => nomatch h
  | i :: is, r :: rs, e, e2, h => by
    have h : (asgN i r e).bind (fun e1 => asgNs is rs e1) = some e2 := h
    cases h1 : asgN i r e with
    | none => rw [h1] at h; cases h
    | some em => rw [h1] at h; rw [List.length_cons, List.length_cons, asgNs_len (show asgNs is rs em = some e2 from h)]
theorem sem_par3 (G : Gd X c W) {i j l : Nat} {x y z : Str} {a b d : Expr} {qs : EL} {px py pz pt pos : Pos} {kt k2 pt2} (hi : X.N[i]? = some x) (hj : X.N[j]? = some y) (hl : X.N[l]? = some z) (hij : i ≠ j) (hil : i ≠ l) (hjl : j ≠ l) (hx : X.env.scope.names.lookup x = some .local) (hy : X.env.scope.names.lookup y = some .local) (hz : X.env.scope.names.lookup z = some .local) (ha : PAq X c W C [a, b, d] qs)
    (hw : swappedStores [.Tuple [.Name x px, .Name y py, .Name z pz] kt pt] (.Tuple [a, b, d] k2 pt2) X.env = pure (some [x, y, z])) (hs : swapsWithSole [.Tuple [.Name x px, .Name y py, .Name z pz] kt pt] (.Tuple [a, b, d] k2 pt2) pos.line X.env = pure false) (hv : ∀ k, k ∈ [i, j, l] → ∀ p ∈ c.iov, p.1 ≠ k) :
    PSq X c W C WF (.Assign [.Tuple [.Name x px, .Name y py, .Name z pz] kt pt] (.Tuple [a, b, d] k2 pt2) pos) (.par [i, j, l] qs) := by
  refine (ps_par3 G.hc G.hN hi hj hl hij hil hjl hx hy hz ha hw hs).imp fun D σ H h => ?_
  obtain ⟨en, fo, fs, F, hr⟩ := h
  have hr : ResS c W (KS c (muL qs ++ [i, j, l]) en H fo fs D) ((evL C qs en).bind fun rs e1 => if rs.all ownK then opt (asgNs [i, j, l] rs e1) else .stuck) := hr
  refine tA_seqS F hr fun rs e1 he hx vs H1 fo1 fs1 O S F1 st ts nw => ?_
  split at hx
  · rename_i hk
    cases h2 : asgNs [i, j, l] rs e1 with
    | none => rw [h2] at hx; exact hx.elim
    | some e2 =>
      rw [h2] at hx
      have key := sem_parR (Q := fun σ' H' => D.nx σ' H') G [i, j, l] h2 F1 (st.mono inL) (fun k h => inR k h) hv ts (nw.mono inL) (fun r hr => by
        have := List.all_eq_true.mp hk r hr
        obtain ⟨d, kd⟩ := r
        cases kd with
        | own n => exact ⟨n, rfl⟩
        | root _ _ _ => cases this) fun σ' fo' fs' F' st' _ => hx σ' H1 fo' fs' F' st'
      have hl3 := ts.len
      rw [asgNs_len h2] at hl3
      match vs, hl3 with
      | [u, v, w], _ => exact ⟨u, v, w, rfl, key⟩
  · exact hx.elim
end
end QQ
namespace QQ
open PySem L2

/-- the same base: what data mean -/
structure Cb.Same (c c' : Cb) : Prop where
  hK : c'.K = c.K
  hfa : c'.fa = c.fa
  hca : c'.ca = c.ca
  hla : c'.lamR = c.lamR
section
variable {c c' : Cb} {H : Hp}
theorem RD.cast (S : c.Same c') {kvs : List (D × D)} {v : V} {o s : List Addr} (h : RD c H kvs v o s) : RD c' H kvs v o s := by
  unfold RD at h ⊢
  split at h
  · exact h
  · rw [S.hfa]; exact h
  · rw [S.hK]; exact h
  · rw [S.hla]; exact h
  · exact h
mutual
theorem RO.cast (S : c.Same c') : ∀ (d : D) (n : Nat) (v : V) (o s : List Addr), RO c H d n v o s → RO c' H d n v o s
  | .none, _, _, _, _, h => by rw [RO] at h ⊢; exact h
  | .bool b, _, _, _, _, h => by rw [RO] at h ⊢; exact h
  | .int i, _, _, _, _, h => by rw [RO] at h ⊢; exact h
  | .str x, _, _, _, _, h => by rw [RO] at h ⊢; exact h
  | .dict kvs, _, _, _, _, h => by rw [RO] at h ⊢; exact RD.cast S h
  | .tuple ds, n, _, _, _, h => by
    rw [RO] at h ⊢
    obtain ⟨a, vs, e, q, r⟩ := h
    exact ⟨a, vs, e, by rw [S.hK]; exact q, ROs.cast S ds n vs _ _ r⟩
  | .list ds, 0, _, _, _, h => by
    rw [RO] at h ⊢
    obtain ⟨a, vs, e, q, s', r, es⟩ := h
    exact ⟨a, vs, e, q, s', ROs.cast S ds 0 vs _ _ r, es⟩
  | .list ds, m + 1, _, _, _, h => by
    rw [RO] at h ⊢
    obtain ⟨a, vs, e, q, o', r, eo⟩ := h
    exact ⟨a, vs, e, q, o', ROs.cast S ds m vs _ _ r, eo⟩
theorem ROs.cast (S : c.Same c') : ∀ (ds : List D) (n : Nat) (vs : List V) (o s : List Addr), ROs c H ds n vs o s → ROs c' H ds n vs o s
  | [], _, _, _, _, h => by rw [ROs] at h ⊢; exact h
  | d :: ds, n, _, _, _, h => by
    rw [ROs] at h ⊢
    obtain ⟨v, vs', o1, s1, o2, s2, e, r1, r2, eo, es⟩ := h
    exact ⟨v, vs', o1, s1, o2, s2, e, RO.cast S d n v _ _ r1, ROs.cast S ds n vs' _ _ r2, eo, es⟩
end
end
abbrev PA := List (List Addr × List Addr)
/-- the arguments: each to its depth, what each is made of -/
def ROa (c : Cb) (H : Hp) : List Nat → List D → List V → PA → Prop
  | _, [], vs, P => vs = [] ∧ P = []
  | ns, d :: ds, vs, P => ∃ v vs' p P', vs = v :: vs' ∧ P = p :: P' ∧ RO c H d (ns.headD 0) v p.1 p.2 ∧ ROa c H ns.tail ds vs' P'
def pO (P : PA) : List Addr := (P.map Prod.fst).flatten
def pS (P : PA) : List Addr := (P.map Prod.snd).flatten
/-- apart from one another -/
structure Apart (P : PA) : Prop where
  nd : ∀ (i : Nat) p, P[i]? = some p → p.1.Nodup
  dj : ∀ (i j : Nat) p q, P[i]? = some p → P[j]? = some q → ∀ a, a ∈ p.1 → a ∉ q.2 ∧ (i ≠ j → a ∉ q.1)
theorem mem_pO {P : PA} {i : Nat} {p : List Addr × List Addr} (h : P[i]? = some p) {a : Addr} (ha : a ∈ p.1) : a ∈ pO P := List.mem_flatten.mpr ⟨p.1, List.mem_map.mpr ⟨p, List.mem_of_getElem? h, rfl⟩, ha⟩
theorem mem_pS {P : PA} {i : Nat} {p : List Addr × List Addr} (h : P[i]? = some p) {a : Addr} (ha : a ∈ p.2) : a ∈ pS P := List.mem_flatten.mpr ⟨p.2, List.mem_map.mpr ⟨p, List.mem_of_getElem? h, rfl⟩, ha⟩
theorem of_pO {P : PA} {a : Addr} (h : a ∈ pO P) : ∃ (i : Nat) (p : List Addr × List Addr), P[i]? = some p ∧ a ∈ p.1 := by
  obtain ⟨l, hl, ha⟩ := List.mem_flatten.mp h
  obtain ⟨p, hp, rfl⟩ := List.mem_map.mp hl
  obtain ⟨i, hi⟩ := List.getElem?_of_mem hp
  exact ⟨i, p, hi, ha⟩
/-- the slots that are handed over, with their values -/
def ioV : Nat → List Nat → List V → List (Nat × V)
  | i, 0 :: ns, _ :: vs => ioV (i + 1) ns vs
  | i, (_ + 1) :: ns, v :: vs => (i, v) :: ioV (i + 1) ns vs
  | _, _, _ => []
theorem ioV_at : ∀ (ns : List Nat) (vs : List V) (i : Nat), ∀ p ∈ ioV i ns vs, ∃ j, p.1 = i + j ∧ vs[j]? = some p.2 ∧ ∃ n, ns[j]? = some (n + 1)
  | [], vs, i, p, h => by simp [ioV] at h
  | 0 :: ns, [], i, p, h => by simp [ioV] at h
  | (_ + 1) :: ns, [], i, p, h => by simp [ioV] at h
  | 0 :: ns, v :: vs, i, p, h => by
    obtain ⟨j, h1, h2, h3⟩ := ioV_at ns vs (i + 1) p h
    exact ⟨j + 1, by omega, h2, h3⟩
  | (n + 1) :: ns, v :: vs, i, p, h => by
    rcases List.mem_cons.mp h with rfl | h
    · exact ⟨0, rfl, rfl, n, rfl⟩
    · obtain ⟨j, h1, h2, h3⟩ := ioV_at ns vs (i + 1) p h
      exact ⟨j + 1, by omega, h2, h3⟩
/-- the body's own base -/
abbrev Cb.enter (c : Cb) (H : Hp) (ns : List Nat) (vs : List V) (P : PA) : Cb := { c with H0 := H, io := pO P, ar := pS P, iov := ioV 0 ns vs }
theorem Cb.enter_same (c : Cb) (H : Hp) (ns : List Nat) (vs : List V) (P : PA) : c.Same (c.enter H ns vs P) := ⟨rfl, rfl, rfl, rfl⟩
theorem Cb.leave (c : Cb) (H : Hp) (ns : List Nat) (vs : List V) (P : PA) : (c.enter H ns vs P).Same c := ⟨rfl, rfl, rfl, rfl⟩
section
variable {c : Cb} {H : Hp}
theorem ROa.len : ∀ {ns : List Nat} {ds : List D} {vs : List V} {P : PA}, ROa c H ns ds vs P → ds.length = vs.length ∧ P.length = vs.length
  | _, [], _, _, ⟨e1, e2⟩ => by rw [e1, e2]; exact ⟨rfl, rfl⟩
  | ns, d :: ds, _, _, ⟨v, vs', p, P', e1, e2, _, h⟩ => by
    obtain ⟨q1, q2⟩ := ROa.len h
    rw [e1, e2]
    exact ⟨by rw [List.length_cons, List.length_cons, q1], by rw [List.length_cons, List.length_cons, q2]⟩
theorem argE_len : ∀ (ns : List Nat) (ds : List D), (argE ns ds).length = ds.length
  | [], [] => rfl
  | _ :: _, [] => rfl
  | [], d :: ds => by rw [argE, List.length_cons, argE_len [] ds, List.length_cons]
  | n :: ns, d :: ds => by rw [argE, List.length_cons, argE_len ns ds, List.length_cons]
theorem argE_cons (ns : List Nat) (d : D) (ds : List D) : argE ns (d :: ds) = some (d, ns.headD 0) :: argE ns.tail ds := by
  cases ns <;> rfl
theorem ROa.get : ∀ {ns : List Nat} {ds : List D} {vs : List V} {P : PA}, ROa c H ns ds vs P → ∀ (i : Nat) (d : D) (n : Nat), (argE ns ds)[i]? = some (some (d, n)) → ∃ v p, vs[i]? = some v ∧ P[i]? = some p ∧ RO c H d n v p.1 p.2
  | ns, [], _, _, _, i, d, n, h => by
    have : argE ns [] = [] := by cases ns <;> rfl
    rw [this] at h; simp at h
  | ns, d0 :: ds, _, _, ⟨v, vs', p, P', e1, e2, r, hr⟩, 0, d, n, h => by
    rw [argE_cons] at h
    have h : some (some (d0, ns.headD 0)) = some (some (d, n)) := h
    cases h
    subst e1 e2
    exact ⟨v, p, rfl, rfl, r⟩
  | ns, d0 :: ds, _, _, ⟨v, vs', p, P', e1, e2, r, hr⟩, i + 1, d, n, h => by
    rw [argE_cons] at h
    subst e1 e2
    exact ROa.get hr i d n (by simpa using h)
/-- the slots at a def's entry -/
theorem FR.start {ns : List Nat} {ds : List D} {vs : List V} {P : PA} {F : FD} {N : List Str} (r : ROa c H ns ds vs P) (ap : Apart P) (tb : NdefX.TabsN c.tb H) (hN : N.length = F.ns) (hio : F.io = ns) (hle : vs.length ≤ N.length) :
    FR (c.enter H ns vs P) (startE F ds) (L2.start N vs) H (fun i => (P[i]?.map Prod.fst).getD []) (fun i => (P[i]?.map Prod.snd).getD []) := by
  subst hio
  obtain ⟨l1, l2⟩ := r.len
  have hst : ∀ (i : Nat) p, (startE F ds)[i]? = some (some p) → (argE F.io ds)[i]? = some (some p) := fun i p h => by
    unfold startE at h
    by_cases hi : i < (argE F.io ds).length
    · rwa [List.getElem?_append_left hi] at h
    · rw [List.getElem?_append_right (by omega), List.getElem?_replicate] at h
      split at h <;> cases h
  have pf : ∀ (i : Nat) a, a ∈ (P[i]?.map Prod.fst).getD [] → ∃ p, P[i]? = some p ∧ a ∈ p.1 := fun i a h => by
    cases e : P[i]? with
    | none => rw [e] at h; simp at h
    | some p => rw [e] at h; exact ⟨p, rfl, h⟩
  have ps : ∀ (i : Nat) a, a ∈ (P[i]?.map Prod.snd).getD [] → ∃ p, P[i]? = some p ∧ a ∈ p.2 := fun i a h => by
    cases e : P[i]? with
    | none => rw [e] at h; simp at h
    | some p => rw [e] at h; exact ⟨p, rfl, h⟩
  refine { len := ?_, rel := fun i d n h => ?_, emp := fun i h => ?_, nd := fun i => ?_, dj := fun i j a ha => ?_, so := fun i a ha => ?_, ss := fun i a ha => ?_, kp := fun a x e _ _ => e, dm := fun _ h => h, iov := fun p hp => ?_, tb := tb }
  · unfold startE L2.start
    rw [List.length_append, argE_len, List.length_replicate, List.length_append, List.length_map, List.length_replicate, hN, l1]
  · obtain ⟨v, p, h1, h2, h3⟩ := r.get i d n (hst i _ h)
    refine ⟨v, ?_, ?_⟩
    · unfold L2.start
      have hi : i < vs.length := (List.getElem?_eq_some_iff.mp h1).1
      rw [List.getElem?_append_left (by simpa using hi), List.getElem?_map, h1]; rfl
    · rw [h2]
      exact RO.cast (c.enter_same H F.io vs P) d n v _ _ h3
  · have hn : P[i]? = none := by
      cases e : P[i]? with
      | none => rfl
      | some p =>
        exfalso
        have hi : i < (argE F.io ds).length := by rw [argE_len, l1, ← l2]; exact (List.getElem?_eq_some_iff.mp e).1
        have all : ∀ (ns : List Nat) (ds : List D) (i : Nat), i < (argE ns ds).length → ∃ q, (argE ns ds)[i]? = some (some q) := by
          intro ns ds
          induction ds generalizing ns with
          | nil => intro i hi; rw [argE_len] at hi; cases hi
          | cons d ds ih =>
            intro i hi
            rw [argE_cons] at hi ⊢
            cases i with
            | zero => exact ⟨_, rfl⟩
            | succ i => exact ih ns.tail i (by simpa using hi)
        obtain ⟨q, hq⟩ := all F.io ds i hi
        exact h q (by unfold startE; rw [List.getElem?_append_left hi]; exact hq)
    rw [hn]; exact ⟨rfl, rfl⟩
  · cases e : P[i]? with
    | none => exact List.nodup_nil
    | some p => exact ap.nd i p e
  · obtain ⟨p, hp, ha⟩ := pf i a ha
    refine ⟨fun z => ?_, fun hij z => ?_⟩
    · obtain ⟨q, hq, z⟩ := ps j a z
      exact (ap.dj i j p q hp hq a ha).1 z
    · obtain ⟨q, hq, z⟩ := pf j a z
      exact (ap.dj i j p q hp hq a ha).2 hij z
  · obtain ⟨p, hp, ha⟩ := pf i a ha
    exact .inr (mem_pO hp ha)
  · obtain ⟨p, hp, ha⟩ := ps i a ha
    exact .inr (.inr (mem_pS hp ha))
  · obtain ⟨j, h1, h2, _⟩ := ioV_at F.io vs 0 p hp
    rw [h1, Nat.zero_add]
    unfold L2.start
    have hi : j < vs.length := (List.getElem?_eq_some_iff.mp h2).1
    rw [List.getElem?_append_left (by simpa using hi), List.getElem?_map, h2]; rfl
end
/-! ### behind a def's body -/
structure Aft (c : Cb) (H : Hp) (O : List Addr) (H' : Hp) : Prop where
  keep : ∀ a x, H a = some x → a ∉ O → (∀ ps, x ≠ .tbl ps) → H' a = some x
  dom : ∀ a, H a ≠ none → H' a ≠ none
  tb : NdefX.TabsN c.tb H'
/-- the lists that were handed over -/
def ROi (c : Cb) (H : Hp) : List Nat → List V → List D → PA → Prop
  | [], _, [], [] => True
  | 0 :: ns, _ :: vs, ios, P => ROi c H ns vs ios P
  | (n + 1) :: ns, v :: vs, d :: ios, p :: P => RO c H d (n + 1) v p.1 p.2 ∧ ROi c H ns vs ios P
  | _, _, _, _ => False
structure Back (c : Cb) (H : Hp) (O S : List Addr) (H' : Hp) (ns : List Nat) (vs : List V) (ios : List D) (PB : PA) : Prop where
  aft : Aft c H O H'
  io : ROi c H' ns vs ios PB
  ap : Apart PB
  so : ∀ a, a ∈ pO PB → H a = none ∨ a ∈ O
structure Ret (c : Cb) (H : Hp) (O S : List Addr) (H' : Hp) (PB : PA) (d : D) (k : Nat) (v : V) (o s : List Addr) : Prop where
  ro : RO c H' d k v o s
  nd : o.Nodup
  os : ∀ a, a ∈ o → a ∉ s
  of : ∀ a, a ∈ o → a ∉ pO PB ∧ a ∉ pS PB
  sf : ∀ a, a ∈ s → a ∉ pO PB
  so : ∀ a, a ∈ o → H a = none ∨ a ∈ O
  ss : ∀ a, a ∈ s → H a = none ∨ a ∈ O ∨ a ∈ S
/-- what is wanted of an answer -/
def Prm (c : Cb) (H : Hp) (P : PA) (io : List Nat) (vs : List V) (Q : VK) (E : XK) : CO → Prop
  | .ret d k ios => ∀ v o s PB H', Back c H (pO P) (pS P) H' io vs ios PB → Ret c H (pO P) (pS P) H' PB d k v o s → Q v H'
  | .exc x ios => ∀ cls dx s PB H', Back c H (pO P) (pS P) H' io vs ios PB → XR c H' x cls dx s → (∀ a, a ∈ s → a ∉ pO PB ∧ (H a = none ∨ a ∈ pO P ∨ a ∈ pS P)) → E cls dx H'
  | .stuck => False
/-- a def's promise -/
def spD (c : Cb) (np : Nat) (io : List Nat) (co : List D → CO) : Sp := fun vs H Q E => vs.length = np ∧ ∃ ds P, ROa c H io ds vs P ∧ Apart P ∧ NdefX.TabsN c.tb H ∧ Prm c H P io vs Q E (co ds)
def ioI : Nat → List Nat → List Nat
  | _, [] => []
  | i, 0 :: ns => ioI (i + 1) ns
  | i, (_ + 1) :: ns => i :: ioI (i + 1) ns
theorem ioI_ge : ∀ {ns : List Nat} {i k : Nat}, k ∈ ioI i ns → i ≤ k
  | [], _, _, h => by simp [ioI] at h
  | 0 :: ns, i, k, h => Nat.le_of_succ_le (ioI_ge (ns := ns) h)
  | (_ + 1) :: ns, i, k, h => by
    rcases List.mem_cons.mp h with rfl | h
    · exact Nat.le_refl _
    · exact Nat.le_of_succ_le (ioI_ge h)
theorem ioI_nodup : ∀ (ns : List Nat) (i : Nat), (ioI i ns).Nodup
  | [], _ => List.nodup_nil
  | 0 :: ns, i => ioI_nodup ns (i + 1)
  | (_ + 1) :: ns, i => List.nodup_cons.mpr ⟨fun h => by have := ioI_ge h; omega, ioI_nodup ns (i + 1)⟩
section
variable {c c1 : Cb} {e : En} {σ : L2.St} {H : Hp} {fo fs : FP}
theorem ROi_of (S : c1.Same c) (F : FR c1 e σ H fo fs) : ∀ (ns : List Nat) (vs : List V) (i : Nat) (ios : List D), iosOut e i ns = some ios → ns.length ≤ vs.length → (∀ p ∈ ioV i ns vs, σ[p.1]? = some (some p.2)) → ROi c H ns vs ios ((ioI i ns).map fun k => (fo k, fs k))
  | [], vs, i, ios, h, hl, hv => by
    have h : some [] = some ios := h
    cases h
    trivial
  | _ :: _, [], i, ios, h, hl, hv => by simp at hl
  | 0 :: ns, v :: vs, i, ios, h, hl, hv => ROi_of S F ns vs (i + 1) ios h (by simpa using hl) hv
  | (n + 1) :: ns, v :: vs, i, ios, h, hl, hv => by
    unfold iosOut at h
    split at h
    · rename_i d m he
      split at h
      · rename_i hm
        subst hm
        cases hq : iosOut e (i + 1) ns with
        | none => rw [hq] at h; cases h
        | some r =>
          rw [hq] at h
          cases h
          obtain ⟨w, hw, ro⟩ := F.rel i d _ he
          have hv0 := hv (i, v) (List.mem_cons_self ..)
          rw [hw] at hv0
          cases hv0
          exact ⟨RO.cast S d _ _ _ _ ro, ROi_of S F ns vs (i + 1) r hq (by simpa using hl) fun p hp => hv p (List.mem_cons_of_mem _ hp)⟩
      · cases h
    · cases h
theorem map_get {is : List Nat} {j : Nat} {p : List Addr × List Addr} (h : (is.map fun k => (fo k, fs k))[j]? = some p) : ∃ k, is[j]? = some k ∧ p = (fo k, fs k) := by
  rw [List.getElem?_map] at h
  cases hk : is[j]? with
  | none => rw [hk] at h; cases h
  | some k => rw [hk] at h; cases h; exact ⟨k, rfl, rfl⟩
theorem apart_of (F : FR c1 e σ H fo fs) {is : List Nat} (hn : is.Nodup) : Apart (is.map fun k => (fo k, fs k)) where
  nd := fun j p h => by
    obtain ⟨k, _, rfl⟩ := map_get h
    exact F.nd k
  dj := fun i j p q h1 h2 a ha => by
    obtain ⟨k1, e1, rfl⟩ := map_get h1
    obtain ⟨k2, e2, rfl⟩ := map_get h2
    have d := F.dj k1 k2 a ha
    refine ⟨d.1, fun hij => d.2 fun hk => hij ?_⟩
    subst hk
    have l1 := (List.getElem?_eq_some_iff.mp e1)
    have l2 := (List.getElem?_eq_some_iff.mp e2)
    obtain ⟨l1, g1⟩ := l1
    obtain ⟨l2, g2⟩ := l2
    exact (List.getElem_inj hn).mp (g1.trans g2.symm)
theorem in_pO {is : List Nat} {a : Addr} (h : a ∈ pO (is.map fun k => (fo k, fs k))) : ∃ k, a ∈ fo k := by
  obtain ⟨j, p, hp, ha⟩ := of_pO h
  obtain ⟨k, _, rfl⟩ := map_get hp
  exact ⟨k, ha⟩
theorem in_pS {is : List Nat} {a : Addr} (h : a ∈ pS (is.map fun k => (fo k, fs k))) : ∃ k, a ∈ fs k := by
  obtain ⟨l, hl, ha⟩ := List.mem_flatten.mp h
  obtain ⟨p, hp, rfl⟩ := List.mem_map.mp hl
  obtain ⟨k, _, rfl⟩ := List.mem_map.mp hp
  exact ⟨k, ha⟩
end
theorem back_of {c : Cb} {H H' : Hp} {ns : List Nat} {vs : List V} {P : PA} {e : En} {σ : L2.St} {fo fs : FP} {ios : List D} (F : FR (c.enter H ns vs P) e σ H' fo fs) (h : iosOut e 0 ns = some ios) (hl : ns.length ≤ vs.length) :
    Back c H (pO P) (pS P) H' ns vs ios ((ioI 0 ns).map fun k => (fo k, fs k)) where
  aft := ⟨fun a x e0 h t => F.kp a x e0 h t, F.dm, F.tb⟩
  io := ROi_of (c.leave H ns vs P) F ns vs 0 ios h hl F.iov
  ap := apart_of F (ioI_nodup ns 0)
  so := fun a ha => by
    obtain ⟨k, hk⟩ := in_pO ha
    exact F.so k a hk
/-- a def keeps its promise -/
theorem body_ok {c : Cb} {C : Orc} {WF : Nat} {F : FD} {N : List Str} {vs : List V} {H : Hp} {Q : VK} {E : XK} {ds : List D} {P : PA} (hN : N.length = F.ns) (hnp : F.np ≤ F.ns) (hio : F.io.length ≤ F.np) (hl : vs.length = F.np)
    (r : ROa c H F.io ds vs P) (ap : Apart P) (tb : NdefX.TabsN c.tb H) (h : Prm c H P F.io vs Q E (runD C WF F ds)) : tSt (c.enter H F.io vs P) (fun cls d _ H => E cls d H) (muSs F.body) (exs C WF F.body) { nx := fun _ H' => Q .non H', rt := Q } (L2.start N vs) H := by
  have Fs := FR.start (F := F) (N := N) r ap tb hN rfl (by omega)
  refine ⟨_, _, _, Fs, ?_⟩
  have hlen : ds.length = F.np := by rw [r.len.1]; exact hl
  have h : Prm c H P F.io vs Q E (match exs C WF F.body (startE F ds) with
    | .ok fl en => match iosOut en 0 F.io, fl with
      | some ios, .nx => .ret .none 0 ios
      | some ios, .rt d k => .ret d k ios
      | none, _ => .stuck
    | .exc x en => match iosOut en 0 F.io with
      | some ios => .exc x ios
      | none => .stuck
    | .stuck => .stuck) := by
    unfold runD at h
    rw [if_pos hlen] at h
    exact h
  have hle : F.io.length ≤ vs.length := by omega
  cases hx : exs C WF F.body (startE F ds) with
  | stuck => rw [hx] at h; exact h.elim
  | exc x e =>
    rw [hx] at h
    have h : Prm c H P F.io vs Q E (match iosOut e 0 F.io with
      | some ios => .exc x ios
      | none => .stuck) := h
    intro σ cls d H' fo' fs' s F' xr hs
    cases hi : iosOut e 0 F.io with
    | none => rw [hi] at h; exact h.elim
    | some ios =>
      rw [hi] at h
      have h : ∀ cls dx s PB H', Back c H (pO P) (pS P) H' F.io vs ios PB → XR c H' x cls dx s → (∀ a, a ∈ s → a ∉ pO PB ∧ (H a = none ∨ a ∈ pO P ∨ a ∈ pS P)) → E cls dx H' := h
      refine h cls d s _ H' (back_of F' hi hle) ?_ fun a ha => ⟨fun z => ?_, (hs a ha).2⟩
      · unfold XR at xr ⊢
        split at xr
        · exact xr
        · obtain ⟨h1, dx, v, h2, h3, h4⟩ := xr
          exact ⟨h1, dx, v, h2, h3, RO.cast (c.leave H F.io vs P) _ _ _ _ _ h4⟩
        · exact xr
      · obtain ⟨k, hk⟩ := in_pO z
        exact (hs a ha).1 k hk
  | ok fl e =>
    rw [hx] at h
    have h : Prm c H P F.io vs Q E (match (generalizing := false) iosOut e 0 F.io, fl with
      | some ios, .nx => .ret .none 0 ios
      | some ios, .rt d k => .ret d k ios
      | none, _ => .stuck) := h
    cases hi : iosOut e 0 F.io with
    | none => rw [hi] at h; cases fl <;> exact h.elim
    | some ios =>
      rw [hi] at h
      cases fl with
      | nx =>
        have h : ∀ v o s PB H', Back c H (pO P) (pS P) H' F.io vs ios PB → Ret c H (pO P) (pS P) H' PB .none 0 v o s → Q v H' := h
        exact fun σ' H' fo' fs' F' st' => h .non [] [] _ H' (back_of F' hi hle) ⟨by rw [RO]; exact ⟨rfl, rfl, rfl⟩, List.nodup_nil, by simp, by simp, by simp, by simp, by simp⟩
      | rt d k =>
        have h : ∀ v o s PB H', Back c H (pO P) (pS P) H' F.io vs ios PB → Ret c H (pO P) (pS P) H' PB d k v o s → Q v H' := h
        refine fun v σ' H' fo' fs' o s F' st' w nw => h v o s _ H' (back_of F' hi hle) ⟨RO.cast (c.leave H F.io vs P) _ _ _ _ _ w.ro, w.nd, w.os, fun a ha => ⟨fun z => ?_, fun z => ?_⟩, fun a ha z => ?_, w.so, w.ss⟩
        · obtain ⟨k, hk⟩ := in_pO z; exact (w.of a ha k).1 hk
        · obtain ⟨k, hk⟩ := in_pS z; exact (w.of a ha k).2 hk
        · obtain ⟨k, hk⟩ := in_pO z; exact w.sf a ha k hk
end QQ
namespace QQ
open PySem L2

section
variable {c : Cb} {en e1 : En} {σ : L2.St} {H H1 : Hp} {fo fs fo1 fs1 : FP} {mu : List Nat}
/-- what an argument's own part may be -/
def OcIn (fo1 : FP) (O : List Addr) (js : List Nat) (a : Addr) : Prop := a ∈ O ∨ ∃ i, i ∈ js ∧ a ∈ fo1 i
/-- what an argument's other part may be: of an own value, or of a slot that is not handed over -/
def ScIn (fo1 fs1 : FP) (O S : List Addr) (jall : List Nat) (a : Addr) : Prop := (a ∈ O ∨ a ∈ S) ∨ ∃ i, i ∉ jall ∧ (a ∈ fo1 i ∨ a ∈ fs1 i)
/-- an own value as an argument -/
theorem arg_own {d : D} {n m : Nat} {v : V} {o s : List Addr} (w : Own c H1 fo1 fs1 d n v o s) (h : m ≤ n) : ∃ p : List Addr × List Addr, RO c H1 d m v p.1 p.2 ∧ p.1.Nodup ∧ (∀ a, a ∈ p.1 → a ∉ p.2) ∧ (∀ a, a ∈ p.1 → a ∈ o) ∧ ∀ a, a ∈ p.2 → a ∈ o ∨ a ∈ s := by
  obtain ⟨o', s', w', _, i1, i2⟩ := w.weak (m := m) h (H1 := H1) (fo1 := fun _ => o) (fs1 := fun _ => s) (mu := [0]) ⟨fun a ha => .inr ⟨0, by simp, ha⟩, fun a ha => .inr ⟨0, .inr ha⟩⟩
  exact ⟨(o', s'), w'.ro, w'.nd, w'.os, i1, fun a ha => (i2 a ha).symm⟩
theorem tvs_of : ∀ {rs : List (D × Kd)} {vs : List V} {O S : List Addr}, TVs c e1 σ H1 fo1 fs1 rs vs O S → ∀ a, a ∈ O → ∀ i, a ∉ fo1 i ∧ a ∉ fs1 i
  | [], _, _, _, ⟨_, e, _⟩, a, h => by rw [e] at h; simp at h
  | r :: rs, _, _, _, ⟨v, vs', o, s, O', S', _, t, ts, eO, eS, _, _⟩, a, h => by
    rw [eO] at h
    rcases List.mem_append.mp h with h | h
    · obtain ⟨d, k⟩ := r
      cases k with
      | own n => exact (show Own c H1 fo1 fs1 d n v o s from t).of a h
      | root i m w => rw [t.1] at h; simp at h
    · exact tvs_of ts a h
theorem tvs_sf : ∀ {rs : List (D × Kd)} {vs : List V} {O S : List Addr}, TVs c e1 σ H1 fo1 fs1 rs vs O S → ∀ a, a ∈ S → ∀ i, a ∉ fo1 i
  | [], _, _, _, ⟨_, _, e⟩, a, h => by rw [e] at h; simp at h
  | r :: rs, _, _, _, ⟨v, vs', o, s, O', S', _, t, ts, eO, eS, _, _⟩, a, h => by
    rw [eS] at h
    rcases List.mem_append.mp h with h | h
    · obtain ⟨d, k⟩ := r
      cases k with
      | own n => exact (show Own c H1 fo1 fs1 d n v o s from t).sf a h
      | root i m w => rw [t.2.1] at h; simp at h
    · exact tvs_sf ts a h
def rootOk (jall : List Nat) (d : D) : Kd → Bool
  | .root i _ _ => lf d || !jall.contains i
  | .own _ => true
def rootAny (d : D) : Kd → Bool
  | .root _ _ _ => !lf d
  | .own _ => false
/-- the arguments as the callee takes them -/
theorem args_ok (F1 : FR c e1 σ H1 fo1 fs1) (bl jall : List Nat) : ∀ (rs : List (D × Kd)) (ns : List Nat) (js : List (Option Nat)) (vs : List V) (O S : List Addr), TVs c e1 σ H1 fo1 fs1 rs vs O S → argJs e1 bl ns rs = some js → argsOk jall ns rs = true → (∀ j, j ∈ jsOf js → j ∈ jall) → (jsOf js).Nodup →
    ∃ P, ROa c H1 ns (dsOf rs) vs P ∧ Apart P ∧ (∀ a, a ∈ pO P → OcIn fo1 O (jsOf js) a) ∧ (∀ a, a ∈ pS P → ScIn fo1 fs1 O S jall a) ∧ (∀ j, j ∈ jsOf js → j ∈ bl) ∧ (anyRoot ns rs = false → ∀ a, a ∈ pS P → a ∈ O ∨ a ∈ S)
  | [], ns, js, vs, O, S, ts, hj, ha, hall, hnd => by
    obtain ⟨ev, eO, eS⟩ := ts
    have hns : jsOf js = [] := by
      cases ns with
      | nil => have : some [] = some js := hj; cases this; rfl
      | cons n ns => have : (none : Option (List (Option Nat))) = some js := by cases n <;> exact hj
                     cases this
    refine ⟨[], ⟨ev, rfl⟩, ⟨fun i p h => by simp at h, fun i j p q h => by simp at h⟩, fun a h => by simp [pO] at h, fun a h => by simp [pS] at h, fun j h => by rw [hns] at h; simp at h, fun _ a h => by simp [pS] at h⟩
  | (d, k) :: rs, ns, js, vs, O, S, ts, hj, ha, hall, hnd => by
    obtain ⟨v, vs', o, s, O', S', ev, t, ts', eO, eS, d1, d2⟩ := ts
    subst ev eO eS
    -- a tail and a head
    have glue : ∀ {js' : List (Option Nat)} {hd : List Nat}, argJs e1 bl ns.tail rs = some js' → argsOk jall ns.tail rs = true → jsOf js = hd ++ jsOf js' → (∀ a, a ∈ hd → a ∈ bl) → (anyRoot ns ((d, k) :: rs) = false → anyRoot ns.tail rs = false) →
        ∀ p : List Addr × List Addr, RO c H1 d (ns.headD 0) v p.1 p.2 → p.1.Nodup → (∀ a, a ∈ p.1 → a ∉ p.2) → (∀ a, a ∈ p.1 → a ∈ o ∨ ∃ i, i ∈ hd ∧ a ∈ fo1 i) → (∀ a, a ∈ p.2 → (a ∈ o ∨ a ∈ s) ∨ ∃ i, i ∉ jall ∧ (a ∈ fo1 i ∨ a ∈ fs1 i)) →
        (anyRoot ns ((d, k) :: rs) = false → ∀ a, a ∈ p.2 → a ∈ o ∨ a ∈ s) → (∀ a, (a ∈ o → ∀ i, a ∉ fo1 i ∧ a ∉ fs1 i) ∧ (a ∈ s → ∀ i, a ∉ fo1 i)) →
        ∃ P, ROa c H1 ns (dsOf ((d, k) :: rs)) (v :: vs') P ∧ Apart P ∧ (∀ a, a ∈ pO P → OcIn fo1 (o ++ O') (jsOf js) a) ∧ (∀ a, a ∈ pS P → ScIn fo1 fs1 (o ++ O') (s ++ S') jall a) ∧ (∀ j, j ∈ jsOf js → j ∈ bl) ∧ (anyRoot ns ((d, k) :: rs) = false → ∀ a, a ∈ pS P → a ∈ o ++ O' ∨ a ∈ s ++ S') := by
      intro js' hd hj' ha' ej hbl hany p r nd os po ps pany ow
      rw [ej] at hall hnd
      have hnd := List.nodup_append.mp hnd
      obtain ⟨P', r', ap', io', is', bl', any'⟩ := args_ok F1 bl jall rs ns.tail js' vs' O' S' ts' hj' ha' (fun j h => hall j (List.mem_append_right _ h)) hnd.2.1
      -- the tail's own values, at the slots
      have tailO : ∀ a, a ∈ O' → ∀ i, a ∉ fo1 i ∧ a ∉ fs1 i := tvs_of ts'
      have tailS : ∀ a, a ∈ S' → ∀ i, a ∉ fo1 i := tvs_sf ts'
      have x1 : ∀ a, a ∈ p.1 → a ∉ pO P' ∧ a ∉ pS P' := fun a h => by
        rcases po a h with q | ⟨i, hi, q⟩
        · refine ⟨fun z => ?_, fun z => ?_⟩
          · rcases io' a z with z | ⟨j, _, z⟩
            · exact (d1 a q).1 z
            · exact ((ow a).1 q j).1 z
          · rcases is' a z with (z | z) | ⟨j, _, z⟩
            · exact (d1 a q).1 z
            · exact (d1 a q).2 z
            · exact z.elim ((ow a).1 q j).1 ((ow a).1 q j).2
        · refine ⟨fun z => ?_, fun z => ?_⟩
          · rcases io' a z with z | ⟨j, hj, z⟩
            · exact (tailO a z i).1 q
            · exact (F1.dj i j a q).2 (fun e => hnd.2.2 i hi j hj e) z
          · rcases is' a z with (z | z) | ⟨j, hj, z⟩
            · exact (tailO a z i).1 q
            · exact tailS a z i q
            · have hne : i ≠ j := fun e => hj (e ▸ hall i (List.mem_append_left _ hi))
              exact z.elim ((F1.dj i j a q).2 hne) (F1.dj i j a q).1
      have x2 : ∀ a, a ∈ p.2 → a ∉ pO P' := fun a h z => by
        rcases ps a h with (q | q) | ⟨i, hi, q⟩
        · rcases io' a z with z | ⟨j, _, z⟩
          · exact (d1 a q).1 z
          · exact ((ow a).1 q j).1 z
        · rcases io' a z with z | ⟨j, _, z⟩
          · exact d2 a q z
          · exact (ow a).2 q j z
        · rcases io' a z with z | ⟨j, hj, z⟩
          · exact q.elim (tailO a z i).1 (tailO a z i).2
          · have hne : j ≠ i := fun e => hi (e ▸ hall j (List.mem_append_right _ hj))
            exact q.elim ((F1.dj j i a z).2 hne) (F1.dj j i a z).1
      refine ⟨p :: P', ⟨v, vs', p, P', rfl, rfl, r, r'⟩, ⟨fun i q h => ?_, fun i j q q' h1 h2 a h => ?_⟩, fun a h => ?_, fun a h => ?_, fun j h => ?_, fun hr a h => ?_⟩
      · cases i with
        | zero => cases h; exact nd
        | succ i => exact ap'.nd i q h
      · cases i with
        | zero =>
          cases h1
          cases j with
          | zero => cases h2; exact ⟨os a h, fun z => absurd rfl z⟩
          | succ j =>
            have h2 : P'[j]? = some q' := h2
            exact ⟨fun z => (x1 a h).2 (mem_pS h2 z), fun _ z => (x1 a h).1 (mem_pO h2 z)⟩
        | succ i =>
          cases j with
          | zero =>
            cases h2
            have h1 : P'[i]? = some q := h1
            exact ⟨fun z => x2 a z (mem_pO h1 h), fun _ z => (x1 a z).1 (mem_pO h1 h)⟩
          | succ j =>
            have := ap'.dj i j q q' h1 h2 a h
            exact ⟨this.1, fun hij => this.2 fun e => hij (by rw [e])⟩
      · have h : a ∈ p.1 ++ pO P' := h
        rw [ej]
        rcases List.mem_append.mp h with h | h
        · exact (po a h).imp (List.mem_append_left _) fun ⟨i, hi, z⟩ => ⟨i, List.mem_append_left _ hi, z⟩
        · exact (io' a h).imp (List.mem_append_right _) fun ⟨i, hi, z⟩ => ⟨i, List.mem_append_right _ hi, z⟩
      · have h : a ∈ p.2 ++ pS P' := h
        rcases List.mem_append.mp h with h | h
        · exact (ps a h).imp (fun z => z.imp (List.mem_append_left _) (List.mem_append_left _)) id
        · exact (is' a h).imp (fun z => z.imp (List.mem_append_right _) (List.mem_append_right _)) id
      · rw [ej] at h
        exact (List.mem_append.mp h).elim (hbl j) (bl' j)
      · have h : a ∈ p.2 ++ pS P' := h
        rcases List.mem_append.mp h with h | h
        · exact (pany hr a h).imp (List.mem_append_left _) (List.mem_append_left _)
        · exact (any' (hany hr) a h).imp (List.mem_append_right _) (List.mem_append_right _)
    have own0 : ∀ n, k = .own n → ∀ a, (a ∈ o → ∀ i, a ∉ fo1 i ∧ a ∉ fs1 i) ∧ (a ∈ s → ∀ i, a ∉ fo1 i) := fun n hk a => by
      subst hk
      have w : Own c H1 fo1 fs1 d n v o s := t
      exact ⟨w.of a, w.sf a⟩
    have root0 : ∀ i m w, k = .root i m w → o = [] ∧ s = [] := fun i m w hk => by
      subst hk
      exact ⟨t.1, t.2.1⟩
    have rootx : ∀ i m w, k = .root i m w → ∀ a, (a ∈ o → ∀ i, a ∉ fo1 i ∧ a ∉ fs1 i) ∧ (a ∈ s → ∀ i, a ∉ fo1 i) := fun i m w hk a => by
      obtain ⟨e1, e2⟩ := root0 i m w hk
      rw [e1, e2]; simp
    -- an argument that is shared
    have shared : ∀ {js' : List (Option Nat)}, ns.headD 0 = 0 → argJs e1 bl ns.tail rs = some js' → jsOf js = jsOf js' → (rootOk jall d k && argsOk jall ns.tail rs) = true → (anyRoot ns ((d, k) :: rs) = (rootAny d k || anyRoot ns.tail rs)) → ∃ P, ROa c H1 ns (dsOf ((d, k) :: rs)) (v :: vs') P ∧ Apart P ∧ (∀ a, a ∈ pO P → OcIn fo1 (o ++ O') (jsOf js) a) ∧ (∀ a, a ∈ pS P → ScIn fo1 fs1 (o ++ O') (s ++ S') jall a) ∧ (∀ j, j ∈ jsOf js → j ∈ bl) ∧ (anyRoot ns ((d, k) :: rs) = false → ∀ a, a ∈ pS P → a ∈ o ++ O' ∨ a ∈ s ++ S') := by
      intro js' h0 hj' ej hok hany
      rw [Bool.and_eq_true] at hok
      have hany' : anyRoot ns ((d, k) :: rs) = false → anyRoot ns.tail rs = false := fun h => by
        rw [hany, Bool.or_eq_false_iff] at h; exact h.2
      cases k with
      | own n =>
        obtain ⟨p, r, nd, os, i1, i2⟩ := arg_own (m := 0) (show Own c H1 fo1 fs1 d n v o s from t) (Nat.zero_le _)
        exact glue (hd := []) hj' hok.2 ej (by simp) hany' p (by rw [h0]; exact r) nd os (fun a h => .inl (i1 a h)) (fun a h => .inl (i2 a h)) (fun _ a h => i2 a h) (own0 n rfl)
      | root i m w =>
        obtain ⟨eo, es, ⟨o0, s0, q, ho, hs⟩, _⟩ := t
        by_cases hl : lf d = true
        · obtain ⟨_, _, r⟩ := RO.lf d m 0 v o0 s0 hl q
          exact glue (hd := []) hj' hok.2 ej (by simp) hany' ([], []) (by rw [h0]; exact r) List.nodup_nil (by simp) (by simp) (by simp) (fun _ => by simp) (rootx i m w rfl)
        · obtain ⟨s', r, hs'⟩ := q.read0
          have hi : i ∉ jall := by
            have : (lf d || !jall.contains i) = true := hok.1
            simpa [hl] using this
          refine glue (hd := []) hj' hok.2 ej (by simp) hany' ([], s') (by rw [h0]; exact r) List.nodup_nil (by simp) (by simp) (fun a h => .inr ⟨i, hi, ?_⟩) (fun h => ?_) (rootx i m w rfl)
          · rcases (hs' a).mp h with z | z
            · exact (hs a z).1
            · exact ho a z
          · rw [hany, Bool.or_eq_false_iff] at h
            have : (!lf d) = false := h.1
            simp [hl] at this
    cases ns with
    | nil =>
      have hj : some [] = some js := hj
      cases hj
      exact shared (js' := []) rfl (by cases rs <;> rfl) rfl (by cases k <;> exact ha) (by cases k <;> rfl)
    | cons n ns =>
      cases n with
      | zero => exact shared rfl hj rfl (by cases k <;> exact ha) (by cases k <;> rfl)
      | succ n =>
        have hj : (if full (n + 1) d then match k with
          | .root i m w => if w && decide (m = n + 1) && decide (depthAt e1 i = n + 1) && bl.contains i then (argJs e1 bl ns rs).map (some i :: ·) else none
          | .own m => if m = n + 1 then (argJs e1 bl ns rs).map (none :: ·) else none
        else none) = some js := hj
        split at hj
        · rename_i hf
          cases k with
          | own m =>
            have hj : (if m = n + 1 then (argJs e1 bl ns rs).map (none :: ·) else none) = some js := hj
            by_cases hm : m = n + 1
            · have hj2 : (argJs e1 bl ns rs).map (none :: ·) = some js := by rw [if_pos hm] at hj; exact hj
              clear hj
              subst hm
              cases hq : argJs e1 bl ns rs with
              | none => rw [hq] at hj2; cases hj2
              | some js' =>
                rw [hq] at hj2
                cases hj2
                obtain ⟨p, r, nd, os, i1, i2⟩ := arg_own (m := n + 1) (show Own c H1 fo1 fs1 d (n + 1) v o s from t) (Nat.le_refl _)
                exact glue (hd := []) hq ha rfl (by simp) (fun h => h) p r nd os (fun a h => .inl (i1 a h)) (fun a h => .inl (i2 a h)) (fun _ a h => i2 a h) (own0 _ rfl)
            · rw [if_neg hm] at hj; cases hj
          | root i m w =>
            have hj : (if w && decide (m = n + 1) && decide (depthAt e1 i = n + 1) && bl.contains i then (argJs e1 bl ns rs).map (some i :: ·) else none) = some js := hj
            split at hj
            · rename_i hc
              simp only [Bool.and_eq_true, decide_eq_true_eq] at hc
              obtain ⟨⟨⟨hw, hm⟩, hdep⟩, hbl⟩ := hc
              cases hq : argJs e1 bl ns rs with
              | none => rw [hq] at hj; cases hj
              | some js' =>
                rw [hq] at hj
                cases hj
                obtain ⟨eo, es, _, hwt⟩ := id t
                obtain ⟨hval, hσ⟩ := hwt hw
                have he : e1[i]? = some (some (d, n + 1)) := by
                  unfold depthAt at hdep
                  split at hdep
                  · rename_i d' n' h'
                    rw [h'] at hval ⊢
                    have : d' = d := Option.some.inj hval
                    rw [this, hdep]
                  · cases hdep
                obtain ⟨v', hv', r⟩ := F1.rel i d _ he
                rw [hσ] at hv'
                cases hv'
                have hfs : fs1 i = [] := RO.full (n + 1) d v _ _ hf r
                exact glue (hd := [i]) hq ha rfl (fun a h => by rw [List.mem_singleton.mp h]; simpa using hbl) (fun h => h) (fo1 i, fs1 i) r (F1.nd i) (fun a h => (F1.dj i i a h).1) (fun a h => .inr ⟨i, by simp, h⟩) (fun a h => by have h : a ∈ fs1 i := h; rw [hfs] at h; simp at h) (fun _ a h => by have h : a ∈ fs1 i := h; rw [hfs] at h; simp at h) (rootx i m w rfl)
            · cases hj
        · cases hj
end
section
variable {c : Cb} {H' : Hp} {σ : L2.St}
/-- the slots that were handed over hold the arguments -/
def SlotV (σ : L2.St) : List Nat → List (Option Nat) → List V → Prop
  | [], _, _ => True
  | 0 :: ns, js, _ :: vs => SlotV σ ns js vs
  | (_ + 1) :: ns, some j :: js, v :: vs => σ[j]? = some (some v) ∧ SlotV σ ns js vs
  | (_ + 1) :: ns, none :: js, _ :: vs => SlotV σ ns js vs
  | _, _, _ => False
theorem wipeE_set {en : En} {x : Sl} : ∀ {rem : List Nat} {j : Nat}, j ∉ rem → wipeE (en.set j x) rem = (wipeE en (j :: rem)).set j x
  | [], j, _ => by show en.set j x = (en.set j none).set j x; rw [set_set]
  | i :: rem, j, h => by
    have h' := notCons h
    show (wipeE (en.set j x) rem).set i none = (((wipeE en rem).set i none).set j none).set j x
    rw [wipeE_set h'.2, set_set]
    show (((wipeE en rem).set j none).set j x).set i none = ((wipeE en rem).set i none).set j x
    rw [set_set]
    exact List.set_comm _ _ h'.1
theorem clrF_set {f : FP} {l : List Addr} {rem : List Nat} {j : Nat} (h : j ∉ rem) : updF (clrF f (j :: rem)) j l = clrF (updF f j l) rem := by
  funext k
  by_cases hk : k = j
  · subst hk; rw [updF_same, clrF_out h, updF_same]
  · rw [updF_ne hk]
    show updF (clrF f rem) j [] k = _
    rw [updF_ne hk]
    by_cases hr : k ∈ rem
    · have e1 : ∀ (g : FP), clrF g rem k = [] := fun g => List.eq_nil_iff_forall_not_mem.mpr fun a ha => (clrF_sub ha).2 hr
      rw [e1, e1]
    · rw [clrF_out hr, clrF_out hr, updF_ne hk]
/-- what was handed over stands in its slots again -/
theorem ios_put : ∀ (io : List Nat) (js : List (Option Nat)) (vs : List V) (ios : List D) (PB : PA) (en e' : En) (fo fs : FP), setIos js io ios en = some e' → ROi c H' io vs ios PB → Apart PB → (jsOf js).Nodup →
    FR c (wipeE en (jsOf js)) σ H' (clrF fo (jsOf js)) (clrF fs (jsOf js)) → (∀ j, j ∈ jsOf js → j < en.length) →
    (∀ a, a ∈ pO PB → ∀ j, a ∉ clrF fo (jsOf js) j ∧ a ∉ clrF fs (jsOf js) j) → (∀ a, a ∈ pO PB → Src c a) → SlotV σ io js vs →
    ∃ fo2 fs2, FR c e' σ H' fo2 fs2 ∧ (∀ j a, a ∈ fo2 j → (j ∉ jsOf js ∧ a ∈ fo j) ∨ (j ∈ jsOf js ∧ a ∈ pO PB)) ∧ (∀ j a, a ∈ fs2 j → j ∉ jsOf js ∧ a ∈ fs j) ∧ (∀ j, j ∉ jsOf js → fo2 j = fo j ∧ fs2 j = fs j ∧ e'[j]? = en[j]?) ∧ e'.length = en.length
  | [], js, vs, ios, PB, en, e', fo, fs, hs, hi, ap, nd, F, hl, hd, so, sv => by
    cases js with
    | nil =>
      cases ios with
      | nil =>
        have hs : some en = some e' := hs
        cases hs
        exact ⟨fo, fs, F, fun j a h => .inl ⟨by simp [jsOf], h⟩, fun j a h => ⟨by simp [jsOf], h⟩, fun _ _ => ⟨rfl, rfl, rfl⟩, rfl⟩
      | cons d ios => exact nomatch hs
    | cons j js => cases j <;> exact nomatch hs
  | 0 :: ns, js, vs, ios, PB, en, e', fo, fs, hs, hi, ap, nd, F, hl, hd, so, sv => by
    simp only [setIos] at hs
    cases vs with
    | nil => exact hi.elim
    | cons v vs => exact ios_put ns js vs ios PB en e' fo fs hs hi ap nd F hl hd so sv
  | (n + 1) :: ns, js, vs, ios, PB, en, e', fo, fs, hs, hi, ap, nd, F, hl, hd, so, sv => by
    cases vs with
    | nil => cases ios <;> cases PB <;> exact hi.elim
    | cons v vs =>
      cases ios with
      | nil => exact hi.elim
      | cons d ios =>
        cases PB with
        | nil => exact hi.elim
        | cons p PB =>
          obtain ⟨ro, hi⟩ := hi
          have ap' : Apart PB := ⟨fun i q h => ap.nd (i + 1) q h, fun i j q q' h1 h2 a h => by
            have := ap.dj (i + 1) (j + 1) q q' h1 h2 a h
            exact ⟨this.1, fun hij => this.2 (by omega)⟩⟩
          have inPB : ∀ a, a ∈ pO PB → a ∈ pO (p :: PB) := fun a h => List.mem_append_right p.1 h
          have inP : ∀ a, a ∈ p.1 → a ∈ pO (p :: PB) := fun a h => List.mem_append_left _ h
          cases js with
          | nil => exact nomatch hs
          | cons j js =>
            cases j with
            | none =>
              have hs : setIos js ns ios en = some e' := by simpa only [setIos] using hs
              obtain ⟨fo2, fs2, F2, q1, q2, q3, q4⟩ := ios_put ns js vs ios PB en e' fo fs hs hi ap' nd F hl (fun a h => hd a (inPB a h)) (fun a h => so a (inPB a h)) sv
              exact ⟨fo2, fs2, F2, fun j a h => (q1 j a h).imp id fun ⟨h1, h2⟩ => ⟨h1, inPB a h2⟩, q2, q3, q4⟩
            | some j =>
              have hs : (if full (n + 1) d then setIos js ns ios (en.set j (some (d, n + 1))) else none) = some e' := by simpa only [setIos] using hs
              split at hs
              · rename_i hf
                have hs2 : p.2 = [] := RO.full (n + 1) d v p.1 p.2 hf ro
                have nd : (j :: jsOf js).Nodup := nd
                have ndj := List.nodup_cons.mp nd
                have F : FR c (wipeE en (j :: jsOf js)) σ H' (clrF fo (j :: jsOf js)) (clrF fs (j :: jsOf js)) := F
                have hjl : j < en.length := hl j (List.mem_cons_self ..)
                have w : Own c H' (clrF fo (j :: jsOf js)) (clrF fs (j :: jsOf js)) d (n + 1) v p.1 [] := by
                  rw [hs2] at ro
                  exact ⟨ro, ap.nd 0 p rfl, by simp, fun a h i => hd a (inP a h) i, by simp, fun a h => so a (inP a h), by simp⟩
                have hv : σ[j]? = some (some v) := sv.1
                have F2 := F.put (fun q z => wipeE_in (List.mem_cons_self ..) q z) w (by rw [wipeE_len]; exact hjl) hv
                rw [← wipeE_set ndj.1, clrF_set ndj.1, clrF_set ndj.1] at F2
                have dis : ∀ a, a ∈ pO PB → a ∉ p.1 := fun a h z => by
                  obtain ⟨i, q, hq, ha⟩ := of_pO h
                  exact (ap.dj 0 (i + 1) p q rfl hq a z).2 (by omega) ha
                obtain ⟨fo2, fs2, F3, q1, q2, q3, q4⟩ := ios_put ns js vs ios PB (en.set j (some (d, n + 1))) e' (updF fo j p.1) (updF fs j []) hs hi ap' ndj.2 F2 (fun i h => by rw [List.length_set]; exact hl i (List.mem_cons_of_mem _ h))
                  (fun a h i => by
                    have h0 := hd a (inPB a h) i
                    have h0 : a ∉ clrF fo (j :: jsOf js) i ∧ a ∉ clrF fs (j :: jsOf js) i := h0
                    rw [← clrF_set ndj.1, ← clrF_set ndj.1]
                    by_cases hij : i = j
                    · subst hij; rw [updF_same, updF_same]; exact ⟨dis a h, by simp⟩
                    · rw [updF_ne hij, updF_ne hij]; exact h0) (fun a h => so a (inPB a h)) sv.2
                refine ⟨fo2, fs2, F3, fun i a h => ?_, fun i a h => ?_, fun i h => ?_, by rw [q4, List.length_set]⟩
                · rcases q1 i a h with ⟨h1, h2⟩ | ⟨h1, h2⟩
                  · by_cases hij : i = j
                    · subst hij; rw [updF_same] at h2; exact .inr ⟨List.mem_cons_self .., inP a h2⟩
                    · rw [updF_ne hij] at h2
                      exact .inl ⟨fun z => (List.mem_cons.mp z).elim hij h1, h2⟩
                  · exact .inr ⟨List.mem_cons_of_mem _ h1, inPB a h2⟩
                · obtain ⟨h1, h2⟩ := q2 i a h
                  by_cases hij : i = j
                  · subst hij; rw [updF_same] at h2; simp at h2
                  · rw [updF_ne hij] at h2
                    exact ⟨fun z => (List.mem_cons.mp z).elim hij h1, h2⟩
                · have h' := notCons h
                  obtain ⟨h1, h2, h3⟩ := q3 i h'.2
                  rw [h1, h2, h3, updF_ne h'.1, updF_ne h'.1, List.getElem?_set_ne (Ne.symm h'.1)]
                  exact ⟨rfl, rfl, rfl⟩
              · cases hs
end
section
variable {c : Cb} {W : WX} {en e1 : En} {σ : L2.St} {H H1 : Hp} {fo fs fo1 fs1 : FP} {mu : List Nat} {Q : VK}
theorem tvs_so : ∀ {rs : List (D × Kd)} {vs : List V} {O S : List Addr}, TVs c e1 σ H1 fo1 fs1 rs vs O S → (∀ a, a ∈ O → Src c a) ∧ ∀ a, a ∈ S → SrcS c a
  | [], _, _, _, ⟨_, e, e'⟩ => by rw [e, e']; exact ⟨by simp, by simp⟩
  | r :: rs, _, _, _, ⟨v, vs', o, s, O', S', _, t, ts, eO, eS, _, _⟩ => by
    rw [eO, eS]
    obtain ⟨h1, h2⟩ := tvs_so ts
    obtain ⟨d, k⟩ := r
    cases k with
    | own n =>
      have w : Own c H1 fo1 fs1 d n v o s := t
      exact ⟨fun a h => (List.mem_append.mp h).elim (w.so a) (h1 a), fun a h => (List.mem_append.mp h).elim (w.ss a) (h2 a)⟩
    | root i m w => rw [t.1, t.2.1]; exact ⟨h1, h2⟩
theorem tvs_lst : ∀ {rs : List (D × Kd)} {vs : List V} {O S : List Addr}, TVs c e1 σ H1 fo1 fs1 rs vs O S → ∀ a, a ∈ O → ∃ xs, H1 a = some (.lst xs)
  | [], _, _, _, ⟨_, e, _⟩, a, h => by rw [e] at h; simp at h
  | r :: rs, _, _, _, ⟨v, vs', o, s, O', S', _, t, ts, eO, eS, _, _⟩, a, h => by
    rw [eO] at h
    rcases List.mem_append.mp h with h | h
    · obtain ⟨d, k⟩ := r
      cases k with
      | own n => exact (RO.at d n v o s (show Own c H1 fo1 fs1 d n v o s from t).ro).1 a h
      | root i m w => rw [t.1] at h; simp at h
    · exact tvs_lst ts a h
theorem js_facts (bl : List Nat) : ∀ (rs : List (D × Kd)) (ns : List Nat) (js : List (Option Nat)) (vs : List V) (O S : List Addr), TVs c e1 σ H1 fo1 fs1 rs vs O S → argJs e1 bl ns rs = some js → (∀ j, j ∈ jsOf js → j < e1.length) ∧ SlotV σ ns js vs
  | rs, [], js, vs, O, S, ts, hj => by
    have hj : some [] = some js := by cases rs <;> exact hj
    cases hj
    exact ⟨by simp [jsOf], trivial⟩
  | [], n :: ns, js, vs, O, S, ts, hj => by
    have : (none : Option (List (Option Nat))) = some js := by cases n <;> exact hj
    cases this
  | (d, k) :: rs, 0 :: ns, js, vs, O, S, ts, hj => by
    obtain ⟨v, vs', o, s, O', S', ev, t, ts', eO, eS, d1, d2⟩ := ts
    subst ev
    exact js_facts bl rs ns js vs' O' S' ts' hj
  | (d, k) :: rs, (n + 1) :: ns, js, vs, O, S, ts, hj => by
    obtain ⟨v, vs', o, s, O', S', ev, t, ts', eO, eS, d1, d2⟩ := ts
    subst ev
    have hj : (if full (n + 1) d then match k with
      | .root i m w => if w && decide (m = n + 1) && decide (depthAt e1 i = n + 1) && bl.contains i then (argJs e1 bl ns rs).map (some i :: ·) else none
      | .own m => if m = n + 1 then (argJs e1 bl ns rs).map (none :: ·) else none
    else none) = some js := hj
    split at hj
    · cases k with
      | own m =>
        by_cases hm : m = n + 1
        · have hj2 : (argJs e1 bl ns rs).map (none :: ·) = some js := by
            have hj : (if m = n + 1 then (argJs e1 bl ns rs).map (none :: ·) else none) = some js := hj
            rw [if_pos hm] at hj; exact hj
          cases hq : argJs e1 bl ns rs with
          | none => rw [hq] at hj2; cases hj2
          | some js' =>
            rw [hq] at hj2
            cases hj2
            exact js_facts bl rs ns js' vs' O' S' ts' hq
        · have hj : (if m = n + 1 then (argJs e1 bl ns rs).map (none :: ·) else none) = some js := hj
          rw [if_neg hm] at hj; cases hj
      | root i m w =>
        have hj : (if w && decide (m = n + 1) && decide (depthAt e1 i = n + 1) && bl.contains i then (argJs e1 bl ns rs).map (some i :: ·) else none) = some js := hj
        split at hj
        · rename_i hc
          simp only [Bool.and_eq_true, decide_eq_true_eq] at hc
          cases hq : argJs e1 bl ns rs with
          | none => rw [hq] at hj; cases hj
          | some js' =>
            rw [hq] at hj
            cases hj
            obtain ⟨h1, h2⟩ := js_facts bl rs ns js' vs' O' S' ts' hq
            refine ⟨fun j h => ?_, (t.2.2.2 hc.1.1.1).2, h2⟩
            rcases List.mem_cons.mp (show j ∈ i :: jsOf js' from h) with e | h
            · subst e
              rcases Nat.lt_or_ge j e1.length with z | z
              · exact z
              · have := hc.1.2
                unfold depthAt at this
                rw [List.getElem?_eq_none z] at this
                cases this
            · exact h1 j h
        · cases hj
    · cases hj
theorem call_ok {np : Nat} {io bl : List Nat} {co : List D → CO} {rs : List (D × Kd)} {vs : List V} {O S : List Addr} (F : FR c en σ H fo fs) (F1 : FR c e1 σ H1 fo1 fs1) (st : Step mu en e1 H H1 fo fs fo1 fs1) (ts : TVs c e1 σ H1 fo1 fs1 rs vs O S) (nw : New mu H fo fs O S)
    (hl : rs.length = np) (hr : Res c W σ (KE c σ (mu ++ bl) en H fo fs Q) (callD co io bl rs e1)) : spD c np io co vs H1 Q (WE W σ) := by
  unfold callD at hr
  cases hj : argJs e1 bl io rs with
  | none => rw [hj] at hr; exact hr.elim
  | some js =>
    rw [hj] at hr
    have hr : Res c W σ (KE c σ (mu ++ bl) en H fo fs Q) (if argsOk (jsOf js) io rs && decide (jsOf js).Nodup then match co (dsOf rs) with
      | .ret d k ios => if anyRoot io rs && !full k d then .stuck else match setIos js io ios e1 with
        | some e' => .ok (d, .own k) e'
        | none => .stuck
      | .exc x ios => if excOk x then match setIos js io ios e1 with
        | some e' => .exc x e'
        | none => .stuck
        else .stuck
      | .stuck => .stuck
    else .stuck) := hr
    split at hr
    · rename_i hz
      rw [Bool.and_eq_true, decide_eq_true_eq] at hz
      obtain ⟨ha, hnd⟩ := hz
      obtain ⟨P, r, ap, io', is', bl', any'⟩ := args_ok F1 bl (jsOf js) rs io js vs O S ts hj ha (fun _ h => h) hnd
      obtain ⟨hlt, sv⟩ := js_facts bl rs io js vs O S ts hj
      obtain ⟨tso, tss⟩ := tvs_so ts
      -- what is handed over
      have pOsrc : ∀ a, a ∈ pO P → Src c a := fun a h => by
        rcases io' a h with z | ⟨i, _, z⟩
        · exact tso a z
        · exact F1.so i a z
      have pOslot : ∀ a, a ∈ pO P → ∀ j, j ∉ jsOf js → a ∉ fo1 j ∧ a ∉ fs1 j := fun a h j hjj => by
        rcases io' a h with z | ⟨i, hi, z⟩
        · exact tvs_of ts a z j
        · have d := F1.dj i j a z
          exact ⟨d.2 fun e => hjj (e ▸ hi), d.1⟩
      have pOback : ∀ a, a ∈ pO P → H a = none ∨ ∃ j, j ∈ mu ++ bl ∧ a ∈ fo j := fun a h => by
        rcases io' a h with z | ⟨i, hi, z⟩
        · exact (nw.1 a z).imp id fun ⟨j, h, z⟩ => ⟨j, inL j h, z⟩
        · rcases st.oo i a z with z | ⟨_, z | ⟨j, hj, z⟩⟩
          · exact .inr ⟨i, inR i (bl' i hi), z⟩
          · exact .inl z
          · exact .inr ⟨j, inL j hj, z⟩
      -- the frame behind the call
      have after : ∀ {ios : List D} {PB : PA} {H' : Hp} {e' : En}, Back c H1 (pO P) (pS P) H' io vs ios PB → setIos js io ios e1 = some e' → ∃ fo2 fs2, FR c e' σ H' fo2 fs2 ∧ Step (mu ++ bl) en e' H H' fo fs fo2 fs2 ∧
          (∀ j a, a ∈ fo2 j → (j ∉ jsOf js ∧ a ∈ fo1 j) ∨ (j ∈ jsOf js ∧ a ∈ pO PB)) ∧ (∀ j a, a ∈ fs2 j → j ∉ jsOf js ∧ a ∈ fs1 j) := by
        intro ios PB H' e' bk hset
        have Fc := F1.clears (jsOf js)
        have keep : ∀ a x, H1 a = some x → a ∉ pO P → (∀ ps, x ≠ .tbl ps) → H' a = some x := bk.aft.keep
        have Fh : FR c (wipeE e1 (jsOf js)) σ H' (clrF fo1 (jsOf js)) (clrF fs1 (jsOf js)) := {
          len := Fc.len
          rel := fun i d n h => by
            obtain ⟨v, h1, h2⟩ := Fc.rel i d n h
            refine ⟨v, h1, RO.stab d n v _ _ h2 fun a x e hx => ?_⟩
            have nt : ∀ ps, x ≠ .tbl ps := by
              rcases hx with hx | hx
              · exact fixO_tbl hx
              · exact h2.noTbl a hx x e
            refine keep a x e (fun z => ?_) nt
            rcases hx with hx | hx
            · rcases io' a z with y | ⟨j, _, y⟩
              · obtain ⟨xs, q⟩ := tvs_lst ts a y
                rw [e] at q; cases q; cases hx
              · rw [F1.notFix y e] at hx; cases hx
            · rcases List.mem_append.mp hx with hx | hx
              · obtain ⟨q1, q2⟩ := clrF_sub hx
                exact (pOslot a z i q2).1 q1
              · obtain ⟨q1, q2⟩ := clrF_sub hx
                exact (pOslot a z i q2).2 q1
          emp := Fc.emp
          nd := Fc.nd
          dj := Fc.dj
          so := Fc.so
          ss := Fc.ss
          kp := fun a x e h t => keep a x (F1.kp a x e h t) (fun z => by
            rcases pOsrc a z with q | q
            · rw [e] at q; cases q
            · exact h q) t
          dm := fun a h => bk.aft.dom a (F1.dm a h)
          iov := F1.iov
          tb := bk.aft.tb }
        obtain ⟨fo2, fs2, F2, q1, q2, q3, q4⟩ := ios_put io js vs ios PB e1 e' fo1 fs1 hset bk.io bk.ap hnd Fh hlt (fun a h j => by
            have out : ∀ j, j ∉ jsOf js → a ∉ fo1 j ∧ a ∉ fs1 j := fun j hj => by
              rcases bk.so a h with z | z
              · exact ⟨fun y => F1.there (.inl y) z, fun y => F1.there (.inr y) z⟩
              · exact pOslot a z j hj
            exact ⟨fun y => (out j (clrF_sub y).2).1 (clrF_sub y).1, fun y => (out j (clrF_sub y).2).2 (clrF_sub y).1⟩)
          (fun a h => (bk.so a h).elim (fun z => F1.newSrc z) (pOsrc a)) sv
        refine ⟨fo2, fs2, F2, ⟨fun a x e t k => ?_, fun a h => bk.aft.dom a (st.dom a h), fun j a h => ?_, fun j a h => ?_, fun j hj => ?_, fun j hj a h => ?_, fun j hj => ?_⟩, q1, q2⟩
        · refine keep a x (st.keep a x e t fun i hi => k i (inL i hi)) (fun z => ?_) t
          rcases pOback a z with y | ⟨j, hj, y⟩
          · rw [e] at y; cases y
          · exact k j hj y
        · rcases q1 j a h with ⟨_, h⟩ | ⟨hj, h⟩
          · exact (st.oo j a h).imp id fun ⟨p, r⟩ => ⟨inL j p, r.imp id fun ⟨i, p, q⟩ => ⟨i, inL i p, q⟩⟩
          · refine .inr ⟨inR j (bl' j hj), ?_⟩
            rcases bk.so a h with z | z
            · exact .inl (st.new z)
            · exact pOback a z
        · obtain ⟨_, h⟩ := q2 j a h
          exact (st.ss j a h).imp id fun r => r.imp id fun ⟨p, r⟩ => ⟨inL j p, r⟩
        · have hjs : j ∉ jsOf js := fun z => hj (inR j (bl' j z))
          rw [(q3 j hjs).2.2]
          exact st.val j fun z => hj (inL j z)
        · have hjs : j ∉ jsOf js := fun z => hj (inR j (bl' j z))
          rw [(q3 j hjs).1, (q3 j hjs).2.1]
          exact st.all j (fun z => hj (inL j z)) a h
        · have hjs : j ∉ jsOf js := fun z => hj (inR j (bl' j z))
          unfold depthAt
          rw [(q3 j hjs).2.2]
          exact st.dep j fun z => hj (inL j z)
      refine ⟨ts.len.symm.trans hl, dsOf rs, P, r, ap, F1.tb, ?_⟩
      cases hco : co (dsOf rs) with
      | stuck => rw [hco] at hr; exact hr.elim
      | exc x ios =>
        rw [hco] at hr
        have hr : Res c W σ (KE c σ (mu ++ bl) en H fo fs Q) (if excOk x then match setIos js io ios e1 with
          | some e' => .exc x e'
          | none => .stuck
          else .stuck) := hr
        split at hr
        · rename_i hx
          cases hset : setIos js io ios e1 with
          | none => rw [hset] at hr; exact hr.elim
          | some e' =>
            rw [hset] at hr
            intro cls dx s PB H' bk xr hs
            obtain ⟨fo2, fs2, F2, st2, q1, q2⟩ := after bk hset
            have es : s = [] := by
              unfold XR at xr
              split at xr
              · exact xr.2.2
              · obtain ⟨_, _, v, _, _, h4⟩ := xr
                have hx : lf _ = true := hx
                exact (RO.lf _ 0 0 v [] s hx h4).2.1
              · exact xr.elim
            exact hr cls dx H' fo2 fs2 s F2 xr fun a h => by rw [es] at h; simp at h
        · exact hr.elim
      | ret d k ios =>
        rw [hco] at hr
        have hr : Res c W σ (KE c σ (mu ++ bl) en H fo fs Q) (if anyRoot io rs && !full k d then .stuck else match setIos js io ios e1 with
          | some e' => .ok (d, .own k) e'
          | none => .stuck) := hr
        split at hr
        · exact hr.elim
        · rename_i hroot
          cases hset : setIos js io ios e1 with
          | none => rw [hset] at hr; exact hr.elim
          | some e' =>
            rw [hset] at hr
            have hr : KE c σ (mu ++ bl) en H fo fs Q (d, .own k) e' := hr
            intro v o s PB H' bk rt
            obtain ⟨fo2, fs2, F2, st2, q1, q2⟩ := after bk hset
            -- the shared part is of own values
            have hS : ∀ a, a ∈ s → a ∈ pS P → a ∈ O ∨ a ∈ S := fun a h1 h2 => by
              cases hq : anyRoot io rs with
              | false => exact any' hq a h2
              | true =>
                have hf : full k d = true := by simpa [hq] using hroot
                have := RO.full k d v o s hf rt.ro
                rw [this] at h1; simp at h1
            have oSlot : ∀ a, a ∈ o → ∀ j, j ∉ jsOf js → a ∉ fo1 j ∧ a ∉ fs1 j := fun a h j hj => by
              rcases rt.so a h with z | z
              · exact ⟨fun y => F1.there (.inl y) z, fun y => F1.there (.inr y) z⟩
              · exact pOslot a z j hj
            have sSlot : ∀ a, a ∈ s → ∀ j, j ∉ jsOf js → a ∉ fo1 j := fun a h j hj => by
              rcases rt.ss a h with z | z | z
              · exact fun y => F1.there (.inl y) z
              · exact (pOslot a z j hj).1
              · rcases hS a h z with z | z
                · exact (tvs_of ts a z j).1
                · exact tvs_sf ts a z j
            refine hr v H' fo2 fs2 o s F2 st2 ⟨rt.ro, rt.nd, rt.os, fun a h j => ⟨fun z => ?_, fun z => ?_⟩, fun a h j z => ?_, fun a h => ?_, fun a h => ?_⟩ ⟨fun a h => ?_, fun a h => ?_⟩
            · rcases q1 j a z with ⟨hj, z⟩ | ⟨_, z⟩
              · exact (oSlot a h j hj).1 z
              · exact (rt.of a h).1 z
            · obtain ⟨hj, z⟩ := q2 j a z
              exact (oSlot a h j hj).2 z
            · rcases q1 j a z with ⟨hj, z⟩ | ⟨_, z⟩
              · exact sSlot a h j hj z
              · exact rt.sf a h z
            · exact (rt.so a h).elim (fun z => F1.newSrc z) (pOsrc a)
            · rcases rt.ss a h with z | z | z
              · exact (F1.newSrc z).imp id .inl
              · exact (pOsrc a z).imp id .inl
              · exact (hS a h z).elim (fun z => (tso a z).imp id .inl) (tss a)
            · exact (rt.so a h).elim (fun z => .inl (st.new z)) (pOback a)
            · rcases rt.ss a h with z | z | z
              · exact .inl (st.new z)
              · exact (pOback a z).imp id fun ⟨j, _, q⟩ => ⟨j, .inl q⟩
              · rcases hS a h z with z | z
                · exact (nw.1 a z).imp id fun ⟨j, _, q⟩ => ⟨j, .inl q⟩
                · exact nw.2 a z
    · exact hr.elim
end
end QQ
namespace QQ
open PySem L2 PyProof.Rows

theorem Cb.Same.symm {c c' : Cb} (S : c.Same c') : c'.Same c := ⟨S.hK.symm, S.hfa.symm, S.hca.symm, S.hla.symm⟩
section
variable {c c' : Cb} {H : Hp}
theorem ROa.cast (S : c.Same c') : ∀ {ns : List Nat} {ds : List D} {vs : List V} {P : PA}, ROa c H ns ds vs P → ROa c' H ns ds vs P
  | _, [], _, _, h => h
  | ns, d :: ds, _, _, ⟨v, vs', p, P', e1, e2, r, h⟩ => ⟨v, vs', p, P', e1, e2, RO.cast S _ _ _ _ _ r, ROa.cast S h⟩
theorem ROi.cast (S : c.Same c') : ∀ {ns : List Nat} {vs : List V} {ios : List D} {P : PA}, ROi c H ns vs ios P → ROi c' H ns vs ios P
  | [], vs, [], [], h => trivial
  | [], vs, [], _ :: _, h => h.elim
  | [], vs, _ :: _, P, h => h.elim
  | 0 :: ns, [], ios, P, h => h.elim
  | 0 :: ns, v :: vs, ios, P, h => ROi.cast S (ns := ns) h
  | (n + 1) :: ns, [], ios, P, h => h.elim
  | (n + 1) :: ns, v :: vs, [], P, h => h.elim
  | (n + 1) :: ns, v :: vs, d :: ios, [], h => h.elim
  | (n + 1) :: ns, v :: vs, d :: ios, p :: P, h => ⟨RO.cast S _ _ _ _ _ h.1, ROi.cast S h.2⟩
theorem XR.cast (S : c.Same c') {x : D} {cls : Value} {d : Option Addr} {s : List Addr} (h : XR c H x cls d s) : XR c' H x cls d s := by
  unfold XR at h ⊢
  split at h
  · rw [S.hca]; exact h
  · obtain ⟨h1, dx, v, h2, h3, h4⟩ := h
    exact ⟨by rw [S.hca]; exact h1, dx, v, h2, h3, RO.cast S _ _ _ _ _ h4⟩
  · exact h
theorem Back.cast (S : c.Same c') (ht : c'.tb = c.tb) {O Sx : List Addr} {H' : Hp} {ns : List Nat} {vs : List V} {ios : List D} {PB : PA} (b : Back c H O Sx H' ns vs ios PB) : Back c' H O Sx H' ns vs ios PB :=
  ⟨⟨b.aft.keep, b.aft.dom, by rw [ht]; exact b.aft.tb⟩, b.io.cast S, b.ap, b.so⟩
theorem spD.cast (S : c.Same c') (ht : c'.tb = c.tb) {np : Nat} {io : List Nat} {co : List D → CO} {vs : List V} {Q : VK} {E : XK} (h : spD c np io co vs H Q E) : spD c' np io co vs H Q E := by
  obtain ⟨h1, ds, P, r, ap, tb, p⟩ := h
  refine ⟨h1, ds, P, r.cast S, ap, by rw [ht]; exact tb, ?_⟩
  cases hc : co ds with
  | stuck => rw [hc] at p; exact p.elim
  | ret d k ios =>
    rw [hc] at p
    exact fun v o s PB H' b rt => p v o s PB H' (b.cast S.symm ht.symm) ⟨RO.cast S.symm _ _ _ _ _ rt.ro, rt.nd, rt.os, rt.of, rt.sf, rt.so, rt.ss⟩
  | exc x ios =>
    rw [hc] at p
    exact fun cls dx s PB H' b xr hs => p cls dx s PB H' (b.cast S.symm ht.symm) (xr.cast S.symm) hs
end
/-- a call with keywords: how many are given by place, the names of the other ones, where each parameter's value stands -/
structure KB where
  n : Nat
  ns : List Str
  ks : List Nat
  deriving DecidableEq
/-- a def of the table: its promise -/

structure KbOk (K : PySem.W.Frag) (fd : FuncData) (ps : List Str) (kb : List KB) : Prop where
  to : ∀ t, t ∈ kb → ∀ (s : Shared) (us ws : List Value), K.In s.heap → us.length = t.n → ws.length = t.ns.length → BindsTo s fd ⟨us, t.ns.zip ws⟩ (ps.zip (permL t.ks (us ++ ws)))
structure DefOk (X : Cx) (cb : Cb) (x : Str) (np : Nat) (io : List Nat) (kb : List KB) (co : List D → CO) : Prop where
  ex : ∃ (k : Nat) (f : Addr) (fd : FuncData) (ps : List Str), FnOk X.prog X.w X.K X.mg X.base (L2.CX X.prog X.w) k f fd ps (spD cb np io co) ∧ Room k X.A ∧ X.mg x = some (.ref f) ∧ PySem.W.keepIn X.K (.ref f) = true ∧ Binds X.K fd ps [] ∧ KbOk X.K fd ps kb ∧ (x == ("__debug__" : Str)) = false
section
variable {X : Cx} {c cb : Cb} {W : WX} {C : Orc}
theorem sem_call (G : Gd X c W) (S : c.Same cb) (ht : cb.tb = c.tb) {x : Str} {np f : Nat} {io : List Nat} {kb : List KB} (Df : DefOk X cb x np io kb (C.fn f)) (hg : Gl X x) {e : Expr} {es : List Expr} {qs : EL} {p pos : Pos} (ha : PAq X c W C (e :: es) qs) (hs : noStars (e :: es) = true) (hl : elLen qs = np) :
    PEq X c W C (.Call (.Name x p) (e :: es) [] pos) (.call f io qs []) := by
  obtain ⟨k, fa, fd, ps, F, hr, hm, hk, hb, _, hdb⟩ := Df.ex
  have hs' : (noStar e && noStars es) = true := hs
  rw [Bool.and_eq_true] at hs'
  refine (pe_callSD (dvs := []) (ds := []) (E := WE W) F hr hg hm hk hb .nil (fun σ => passAt G.tk σ) ha hdb (star_cons hs'.1 _ _) (star_any hs'.2 _ _)).imp fun σ H Q h => ?_
  obtain ⟨en, fo, fs, F0, hq⟩ := h
  have hq : Res c W σ (KE c σ (muL qs ++ ioBl io qs) en H fo fs Q) ((evL C qs en).bind fun rs e1 => if ([] : List Nat).isEmpty then callD (C.fn f) io (ioBl io qs) rs e1 else if io.isEmpty then callD (fun ds => C.fn f (permL [] ds)) [] [] rs e1 else .stuck) := hq
  refine tA_seqE F0 hq fun rs e1 he hx vs H1 fo1 fs1 O S1 F1 st ts nw => ?_
  have hx : Res c W σ (KE c σ (muL qs ++ ioBl io qs) en H fo fs Q) (callD (C.fn f) io (ioBl io qs) rs e1) := hx
  rw [List.append_nil]
  exact (call_ok F0 F1 st ts nw (by rw [evL_len qs en rs e1 he, hl]) hx).cast S ht
theorem sem_call0 (G : Gd X c W) (S : c.Same cb) (ht : cb.tb = c.tb) {x : Str} {f : Nat} {io : List Nat} {kb : List KB} (Df : DefOk X cb x 0 io kb (C.fn f)) (hg : Gl X x) {p pos : Pos} : PEq X c W C (.Call (.Name x p) [] [] pos) (.call f io .nil []) := by
  obtain ⟨k, fa, fd, ps, F, hr, hm, hk, hb, _, hdb⟩ := Df.ex
  have key : PE X (.Call (.Name x p) [] [] pos) (tCallSD (spD cb 0 io (C.fn f)) [] (WE W) tNil) := by
    refine ⟨fun pins s σ H Q I h => ?_⟩
    refine wpAny_Call_Name_kw (ld_glob I hg hm ?_ hdb)
    exact PySem.W.callWith_K0 I.kIn hk (run_fnSD (us := []) F hr hb .nil (passAt G.tk σ) I .nil h)
  refine key.imp fun σ H Q h => ?_
  obtain ⟨en, fo, fs, F0, hq⟩ := h
  have hq : Res c W σ (KE c σ (muL .nil ++ ioBl io .nil) en H fo fs Q) ((evL C .nil en).bind fun rs e1 => if ([] : List Nat).isEmpty then callD (C.fn f) io (ioBl io .nil) rs e1 else if io.isEmpty then callD (fun ds => C.fn f (permL [] ds)) [] [] rs e1 else .stuck) := hq
  have hx : Res c W σ (KE c σ (muL .nil ++ ioBl io .nil) en H fo fs Q) (callD (C.fn f) io (ioBl io .nil) [] en) := hq
  have ts : TVs c en σ H fo fs [] [] [] [] := ⟨rfl, rfl, rfl⟩
  exact (call_ok F0 F0 .refl ts .nil rfl hx).cast S ht
/-! ### calls with keywords -/
/-- the values given by place, then the keywords' ones -/
structure PKL (X : Cx) (kws : List Keyword) (t : TA) : Prop where
  run : ∀ (pos : Pos) (pins : List (Addr × Obj)) (s : Shared) (σ : L2.St) (H : Hp) (Q : List V → Hp → Prop), Inv X pins σ H s → t σ H Q →
    wpAny (model X.prog X.w) X.A (evalAll ((backToKw pos (keywordEach kws X.env)).map (·.2))) (fun ws s2 => ∃ vs H2, ws.length = kws.length ∧ Inv X pins σ H2 s2 ∧ Vals vs ws ∧ Q vs H2) X.xe s
structure PAK (X : Cx) (es : List Expr) (kws : List Keyword) (t : TA) : Prop where
  run0 : es = [] → PKL X kws t
  run : ∀ (pos : Pos) (pins : List (Addr × Obj)) (s : Shared) (σ : L2.St) (H : Hp) (Q : List V → Hp → Prop), Inv X pins σ H s → t σ H Q → wpAny (model X.prog X.w) X.A (spliced (backTo pos (starEach es X.env)))
    (fun us s1 => us.length = es.length ∧ wpAny (model X.prog X.w) X.A (evalAll ((backToKw pos (keywordEach kws X.env)).map (·.2))) (fun ws s2 => ∃ vs H2, ws.length = kws.length ∧ Inv X pins σ H2 s2 ∧ Vals vs (us ++ ws) ∧ Q vs H2) X.xe s1) X.xe s
theorem pkl_nil : PKL X [] tNil := ⟨fun pos pins s σ H Q I h => wpAny_evalAll_nil ⟨[], H, rfl, I, .nil, h⟩⟩
theorem pkl_cons {e : Expr} {kws : List Keyword} {te : TE} {t : TA} {nm : Option Str} {kpos : Pos} (ha : PE X e te) (hr : PKL X kws t) : PKL X (⟨nm, e, kpos⟩ :: kws) (tCons te t) := by
  refine ⟨fun pos pins s σ H Q I h => ?_⟩
  show wpAny _ _ (evalAll ((do let v ← eval e X.env; standAt pos; pure v) :: (backToKw pos (keywordEach kws X.env)).map (·.2))) _ _ s
  refine wpAny_evalAll_cons (wpAny_bind (thn (ha.run pins s σ H _ I h) fun u s1 ⟨x, H1, I1, r1, q1⟩ => wpAny_bind (wpAny_standAt (wpAny_pure ?_))))
  exact thn (hr.run pos pins s1 σ H1 _ I1 q1) fun ws s2 ⟨vs, H2, hw, I2, r2, q2⟩ => ⟨x :: vs, H2, by rw [List.length_cons, List.length_cons, hw], I2, .cons r1 r2, q2⟩
theorem pak_nil {kws : List Keyword} {t : TA} (h : PKL X kws t) : PAK X [] kws t := ⟨fun _ => h, fun pos pins s σ H Q I hq => Calls.spliced_nil ⟨rfl, h.run pos pins s σ H Q I hq⟩⟩
theorem pak_cons {e : Expr} {es : List Expr} {kws : List Keyword} {te : TE} {t : TA} (ha : PE X e te) (hr : PAK X es kws t) (hs : starEach (e :: es) X.env = (false, eval e X.env) :: starEach es X.env) : PAK X (e :: es) kws (tCons te t) := by
  refine ⟨(fun z => nomatch z), fun pos pins s σ H Q I h => ?_⟩
  rw [hs]
  show wpAny _ _ (spliced ((false, eval e X.env) :: backTo pos (starEach es X.env))) _ _ s
  refine Calls.spliced_cons (thn (ha.run pins s σ H _ I h) fun u s1 ⟨x, H1, I1, r1, q1⟩ => ?_)
  refine thn (hr.run pos pins s1 σ H1 _ I1 q1) fun us s2 ⟨hl, k⟩ => ⟨by rw [List.length_cons, List.length_cons, hl], ?_⟩
  exact thn k fun ws s3 ⟨vs, H3, hw, I3, r3, q3⟩ => ⟨x :: vs, H3, hw, I3, .cons r1 r3, q3⟩
theorem cons_read {q : E} {qs : EL} {σ : L2.St} {H : Hp} {Q : List V → Hp → Prop} (h : tAr c W (muL (.cons q qs)) (evL C (.cons q qs)) σ H Q) : tCons (tE c W (muE q) (ev C q)) (tAr c W (muL qs) (evL C qs)) σ H Q := by
  obtain ⟨en, fo, fs, F, hr⟩ := h
  refine tE_seq F hr fun r e1 hx v H1 fo1 fs1 o s F1 st1 tx nx => ?_
  refine tA_seq F1 hx fun rs e2 hy vs H2 fo2 fs2 O S F2 st2 ty ny => ?_
  split at hy
  · rename_i hp
    have a := tx.apart ny
    refine hy (v :: vs) H2 fo2 fs2 (o ++ O) (s ++ S) F2 (st1.seq st2) ⟨v, vs, o, s, O, S, rfl, tx.carry F1 st2 hp, ty, rfl, rfl, a.1, a.2⟩ ((nx.mono inL).app ((ny.mono inR).back st1 inL))
  · exact hy.elim
theorem nil_read {σ : L2.St} {H : Hp} {Q : List V → Hp → Prop} (h : tAr c W (muL .nil) (evL C .nil) σ H Q) : tNil σ H Q := by
  obtain ⟨en, fo, fs, F, hr⟩ := h
  exact hr [] H fo fs [] [] F .refl ⟨rfl, rfl, rfl⟩ .nil
theorem _root_.QQ.PAK.imp {X : Cx} {es : List Expr} {kws : List Keyword} {t t' : TA} (h : PAK X es kws t) (i : ∀ σ H Q, t' σ H Q → t σ H Q) : PAK X es kws t' := ⟨fun z => ⟨fun pos pins s σ H Q I q => (h.run0 z).run pos pins s σ H Q I (i σ H Q q)⟩, fun pos pins s σ H Q I q => h.run pos pins s σ H Q I (i σ H Q q)⟩
theorem _root_.QQ.PKL.imp {X : Cx} {kws : List Keyword} {t t' : TA} (h : PKL X kws t) (i : ∀ σ H Q, t' σ H Q → t σ H Q) : PKL X kws t' := ⟨fun pos pins s σ H Q I q => h.run pos pins s σ H Q I (i σ H Q q)⟩
end
/-! permuted -/
theorem permL_get {α : Type} {ks : List Nat} (hk : ks.isEmpty = false) {xs : List α} : permL ks xs = (List.range xs.length).filterMap fun p => xs[ks.idxOf p]? := by
  unfold permL; rw [if_neg (by rw [hk]; exact Bool.false_ne_true)]
theorem permL_vals {ks : List Nat} {vs : List V} {us : List Value} (r : Vals vs us) : Vals (permL ks vs) (permL ks us) := by
  cases hk : ks.isEmpty with
  | true => unfold permL; rw [if_pos hk, if_pos hk]; exact r
  | false =>
    rw [permL_get hk, permL_get hk, r.length]
    have : ∀ l : List Nat, Vals (l.filterMap fun p => vs[ks.idxOf p]?) (l.filterMap fun p => us[ks.idxOf p]?) := fun l => by
      induction l with
      | nil => exact .nil
      | cons p l ih =>
        cases hv : vs[ks.idxOf p]? with
        | none =>
          have hu : us[ks.idxOf p]? = none := by
            rw [List.getElem?_eq_none_iff] at hv ⊢
            rw [← r.length]; exact hv
          rw [List.filterMap_cons_none (f := fun p => vs[ks.idxOf p]?) hv, List.filterMap_cons_none (f := fun p => us[ks.idxOf p]?) hu]; exact ih
        | some v =>
          obtain ⟨u, hu, rv⟩ := r.get hv
          rw [List.filterMap_cons_some (f := fun p => vs[ks.idxOf p]?) hv, List.filterMap_cons_some (f := fun p => us[ks.idxOf p]?) hu]; exact .cons rv ih
    exact this _
def permOk (ks : List Nat) (n : Nat) : Bool := (List.range n).all fun p => decide (ks.idxOf p < n)
theorem permL_len {α : Type} {ks : List Nat} {xs : List α} (h : permOk ks xs.length = true) : (permL ks xs).length = xs.length := by
  cases hk : ks.isEmpty with
  | true => unfold permL; rw [if_pos hk]
  | false =>
    rw [permL_get hk]
    have : ∀ l : List Nat, (∀ p, p ∈ l → ks.idxOf p < xs.length) → (l.filterMap fun p => xs[ks.idxOf p]?).length = l.length := fun l hl => by
      induction l with
      | nil => rfl
      | cons p l ih =>
        have hp := List.getElem?_eq_getElem (hl p (List.mem_cons_self ..))
        rw [List.filterMap_cons_some (f := fun p => xs[ks.idxOf p]?) hp, List.length_cons, List.length_cons, ih fun q hq => hl q (List.mem_cons_of_mem _ hq)]
    rw [this _ fun p hp => of_decide_eq_true (List.all_eq_true.mp h p hp), List.length_range]
section
variable {c : Cb} {H : Hp}
theorem permL_mem {α : Type} {ks : List Nat} {xs : List α} {a : α} (h : a ∈ permL ks xs) : a ∈ xs := by
  cases hk : ks.isEmpty with
  | true => unfold permL at h; rw [if_pos hk] at h; exact h
  | false =>
    rw [permL_get hk] at h
    obtain ⟨p, _, hp⟩ := List.mem_filterMap.mp h
    exact List.mem_of_getElem? hp
/-- nothing is handed over -/
theorem ROa0.get : ∀ {ds : List D} {vs : List V} {P : PA}, ROa c H [] ds vs P → ∀ (i : Nat) d, ds[i]? = some d → ∃ v p, vs[i]? = some v ∧ P[i]? = some p ∧ RO c H d 0 v p.1 p.2
  | [], _, _, _, i, d, h => by simp at h
  | d0 :: ds, _, _, ⟨v, vs', p, P', rfl, rfl, r, t⟩, 0, d, h => by
    cases h; exact ⟨v, p, rfl, rfl, r⟩
  | d0 :: ds, _, _, ⟨v, vs', p, P', rfl, rfl, r, t⟩, i + 1, d, h => ROa0.get t i d h
theorem ROa0.fm {ds : List D} {vs : List V} {P : PA} (r : ROa c H [] ds vs P) (g : Nat → Nat) : ∀ l : List Nat, ROa c H [] (l.filterMap fun p => ds[g p]?) (l.filterMap fun p => vs[g p]?) (l.filterMap fun p => P[g p]?)
  | [] => ⟨rfl, rfl⟩
  | p :: l => by
    have L := r.len
    cases hd : ds[g p]? with
    | none =>
      have hv : vs[g p]? = none := by rw [List.getElem?_eq_none_iff] at hd ⊢; rw [← L.1]; exact hd
      have hP : P[g p]? = none := by rw [List.getElem?_eq_none_iff] at hd ⊢; rw [L.2, ← L.1]; exact hd
      rw [List.filterMap_cons_none (f := fun p => ds[g p]?) hd, List.filterMap_cons_none (f := fun p => vs[g p]?) hv, List.filterMap_cons_none (f := fun p => P[g p]?) hP]
      exact ROa0.fm r g l
    | some d =>
      obtain ⟨v, q, hv, hP, rr⟩ := ROa0.get r _ _ hd
      rw [List.filterMap_cons_some (f := fun p => ds[g p]?) hd, List.filterMap_cons_some (f := fun p => vs[g p]?) hv, List.filterMap_cons_some (f := fun p => P[g p]?) hP]
      exact ⟨v, _, q, _, rfl, rfl, rr, ROa0.fm r g l⟩
theorem ROa0.perm {ds : List D} {vs : List V} {P : PA} (ks : List Nat) (r : ROa c H [] ds vs P) : ROa c H [] (permL ks ds) (permL ks vs) (permL ks P) := by
  cases hk : ks.isEmpty with
  | true => unfold permL; rw [if_pos hk, if_pos hk, if_pos hk]; exact r
  | false =>
    have L := r.len
    rw [permL_get hk, permL_get hk, permL_get hk, L.2, ← L.1]
    exact ROa0.fm r (fun p => ks.idxOf p) _
theorem ROa0.empty {ds : List D} {vs : List V} {P : PA} (r : ROa c H [] ds vs P) : ∀ p, p ∈ P → p.1 = [] := fun p hp => by
  obtain ⟨i, hi⟩ := List.getElem?_of_mem hp
  have L := r.len
  have hlt : i < ds.length := by
    have := List.getElem?_eq_some_iff.mp hi
    obtain ⟨h, _⟩ := this
    rw [L.2, ← L.1] at h; exact h
  obtain ⟨v, q, _, hP, rr⟩ := ROa0.get r i _ (List.getElem?_eq_getElem hlt)
  rw [hi] at hP; cases hP
  exact RO.zero _ _ _ _ rr
theorem spD_perm {np : Nat} {ks : List Nat} {co : List D → CO} {vs : List V} {Q : VK} {E : XK} (hk : permOk ks np = true) (h : spD c np [] (fun ds => co (permL ks ds)) vs H Q E) : spD c np [] co (permL ks vs) H Q E := by
  obtain ⟨h1, ds, P, r, ap, tb, pm⟩ := h
  have hP : ∀ p, p ∈ permL ks P → p.1 = [] := fun p hp => ROa0.empty r p (permL_mem hp)
  have nO : ∀ {P : PA}, (∀ p, p ∈ P → p.1 = []) → ∀ a, a ∉ pO P := fun {P} he a ha => by
    obtain ⟨i, p, hp, hm⟩ := of_pO ha
    rw [he p (List.mem_of_getElem? hp)] at hm; cases hm
  have nO1 := nO (ROa0.empty r)
  have nO2 := nO hP
  have sS : ∀ a, a ∈ pS (permL ks P) → a ∈ pS P := fun a ha => by
    obtain ⟨l, hl, hm⟩ := List.mem_flatten.mp ha
    obtain ⟨p, hp, rfl⟩ := List.mem_map.mp hl
    exact List.mem_flatten.mpr ⟨p.2, List.mem_map.mpr ⟨p, permL_mem hp, rfl⟩, hm⟩
  refine ⟨by rw [permL_len (by rw [h1]; exact hk), h1], permL ks ds, permL ks P, ROa0.perm ks r, ⟨fun i p hp => ?_, fun i j p q hp hq a ha => ?_⟩, tb, ?_⟩
  · rw [hP p (List.mem_of_getElem? hp)]; exact List.nodup_nil
  · rw [hP p (List.mem_of_getElem? hp)] at ha; cases ha
  · have bk : ∀ {H' : Hp} {ios : List D} {PB : PA}, Back c H (pO (permL ks P)) (pS (permL ks P)) H' [] (permL ks vs) ios PB → Back c H (pO P) (pS P) H' [] vs ios PB := fun {H' ios PB} b =>
      ⟨⟨fun a x e _ n => b.aft.keep a x e (nO2 a) n, b.aft.dom, b.aft.tb⟩, by
        have := b.io
        cases ios with
        | nil => cases PB with
          | nil => exact this
          | cons p PB => exact this
        | cons d ios => exact this.elim, b.ap, fun a ha => (b.so a ha).imp id fun z => (nO2 a z).elim⟩
    cases hc : co (permL ks ds) with
    | stuck => have pm : Prm c H P [] vs Q E (co (permL ks ds)) := pm; rw [hc] at pm; exact pm.elim
    | ret d k ios =>
      have pm : Prm c H P [] vs Q E (co (permL ks ds)) := pm
      rw [hc] at pm
      exact fun v o s PB H' b rt => pm v o s PB H' (bk b) ⟨rt.ro, rt.nd, rt.os, rt.of, rt.sf, fun a ha => (rt.so a ha).imp id fun z => (nO2 a z).elim, fun a ha => (rt.ss a ha).imp id fun z => z.imp (fun z => (nO2 a z).elim) (sS a)⟩
    | exc x ios =>
      have pm : Prm c H P [] vs Q E (co (permL ks ds)) := pm
      rw [hc] at pm
      exact fun cls dx s PB H' b xr hs => pm cls dx s PB H' (bk b) xr fun a ha => ⟨(hs a ha).1, (hs a ha).2.imp id fun z => z.imp (fun z => (nO2 a z).elim) (sS a)⟩
end
/-! the rule -/
theorem kw_names {kws : List Keyword} {env : Env} {pos : Pos} : (backToKw pos (keywordEach kws env)).filterMap (·.1) = kws.filterMap (·.arg) := by
  induction kws with
  | nil => rfl
  | cons k kws ih =>
    obtain ⟨nm, e, p⟩ := k
    have ih : List.filterMap (·.1) (backToKw pos (keywordEach kws env)) = _ := ih
    show List.filterMap (·.1) ((nm, (do let v ← eval e env; standAt pos; pure v)) :: backToKw pos (keywordEach kws env)) = _
    cases nm with
    | none => exact ih
    | some x => exact congrArg (x :: ·) ih
theorem kw_all {kws : List Keyword} {env : Env} {pos : Pos} (h : kws.all (·.arg.isSome) = true) : (backToKw pos (keywordEach kws env)).all (·.1.isSome) = true := by
  induction kws with
  | nil => rfl
  | cons k kws ih =>
    obtain ⟨nm, e, p⟩ := k
    obtain ⟨h1, h2⟩ := (Bool.and_eq_true _ _).mp (show (nm.isSome && kws.all (·.arg.isSome)) = true from h)
    show (nm.isSome && (backToKw pos (keywordEach kws env)).all (·.1.isSome)) = true
    rw [h1, ih h2]; rfl
theorem kw_any {kws : List Keyword} {env : Env} {pos : Pos} (h : kws.all (·.arg.isSome) = true) : (backToKw pos (keywordEach kws env)).any (·.1.isNone) = false := by
  have := kw_all (env := env) (pos := pos) h
  rw [List.all_eq_true] at this
  rw [List.any_eq_false]
  intro x hx z
  have := this x hx
  cases hx1 : x.1 with
  | none => rw [hx1] at this; cases this
  | some y => rw [hx1] at z; cases z
theorem kw_len : ∀ {kws : List Keyword}, kws.all (·.arg.isSome) = true → (kws.filterMap (·.arg)).length = kws.length
  | [], _ => rfl
  | ⟨nm, e, p⟩ :: kws, h => by
    obtain ⟨h1, h2⟩ := (Bool.and_eq_true _ _).mp (show (nm.isSome && kws.all (·.arg.isSome)) = true from h)
    cases nm with
    | none => cases h1
    | some x => exact congrArg (· + 1) (kw_len h2)
section
variable {X : Cx} {c cb : Cb} {W : WX} {C : Orc}
theorem sem_callK (G : Gd X c W) (S : c.Same cb) (ht : cb.tb = c.tb) {x : Str} {np f : Nat} {ks : List Nat} {kb : List KB} (Df : DefOk X cb x np [] kb (C.fn f)) (hg : Gl X x) {es : List Expr} {kws : List Keyword} {qs : EL} {p pos : Pos} (ha : PAK X es kws (tAr c W (muL qs) (evL C qs))) (hs : noStars es = true) (hw : kws.all (·.arg.isSome) = true) (hl : elLen qs = np)
    (hk : permOk ks np = true) (hke : ks.isEmpty = false) (hkb : (⟨es.length, kws.filterMap (·.arg), ks⟩ : KB) ∈ kb) : PEq X c W C (.Call (.Name x p) es kws pos) (.call f [] qs ks) := by
  obtain ⟨k, fa, fd, ps, F, hr, hm, hkp, hb, hkb', hdb⟩ := Df.ex
  have B := hkb'.to _ hkb
  have key : PE X (.Call (.Name x p) es kws pos) (fun σ H Q => tAr c W (muL qs) (evL C qs) σ H fun vs H1 => spD cb np [] (C.fn f) (permL ks vs) H1 Q (WE W σ)) := by
    refine ⟨fun pins s σ H Q I h => ?_⟩
    refine wpAny_Call_Name_kw (ld_glob I hg hm ?_ hdb)
    have fin : ∀ (us ws : List Value) (vs : List V) (H2 : Hp) (s2 : Shared), us.length = es.length → ws.length = kws.length → Inv X pins σ H2 s2 → Vals vs (us ++ ws) → spD cb np [] (C.fn f) (permL ks vs) H2 Q (WE W σ) →
        wpAny (model X.prog X.w) X.A (call (.ref fa) us ((kws.filterMap (·.arg)).zip ws)) (EP X pins σ Q) X.xe s2 := fun us ws vs H2 s2 h1 h2 I2 r q => by
      have r2 : Vals (permL ks vs) (permL ks (us ++ ws)) := permL_vals r
      have hn : (kws.filterMap (·.arg)).length = kws.length := kw_len hw
      refine wpAny_call (codeAny_mono (F.run X.A X.stack s2 H2 ⟨us, (kws.filterMap (·.arg)).zip ws⟩ (permL ks (us ++ ws)) (permL ks vs) Q (WE W σ) hr I2.env0 (B s2 us ws I2.kIn h1 (by rw [h2]; exact hn.symm)) r2 q) fun r s' hq => ?_)
      cases r with
      | error e => exact passAt G.tk σ pins H2 s2 e s' I2 hq
      | ok fl =>
        cases fl with
        | ret u => exact I2.after hq
        | next => exact False.elim hq
        | brk => exact False.elim hq
        | cont => exact False.elim hq
    cases es with
    | nil =>
      refine PySem.W.callWith_KW0 (h₀ := X.base) I.ok.mod.kin hkp (kw_all hw) (thn ((ha.run0 rfl).run pos pins s σ H _ I h) fun ws s2 ⟨vs, H2, h2, I2, r, q⟩ => ⟨I2.kIn, ?_⟩) ?_
      · rw [kw_names]; exact fin [] ws vs H2 s2 rfl h2 I2 r q
      · rw [kw_any hw]; rfl
    | cons e es =>
      have hs' : (noStar e && noStars es) = true := hs
      rw [Bool.and_eq_true] at hs'
      refine PySem.W.callWith_KW (h₀ := X.base) I.ok.mod.kin hkp (kw_all hw) (thn (ha.run pos pins s σ H _ I h) fun us s1 ⟨h1, kk⟩ => thn kk fun ws s2 ⟨vs, H2, h2, I2, r, q⟩ => ⟨I2.kIn, ?_⟩) ?_ (star_cons hs'.1 _ _)
      · rw [kw_names]; exact fin us ws vs H2 s2 h1 h2 I2 r q
      · rw [star_any hs, kw_any hw]; rfl
  refine key.imp fun σ H Q h => ?_
  obtain ⟨en, fo, fs, F0, hq⟩ := h
  have hq : Res c W σ (KE c σ (muL qs ++ ioBl [] qs) en H fo fs Q) ((evL C qs en).bind fun rs e1 => if ks.isEmpty then callD (C.fn f) [] (ioBl [] qs) rs e1 else if ([] : List Nat).isEmpty then callD (fun ds => C.fn f (permL ks ds)) [] [] rs e1 else .stuck) := hq
  refine tA_seqE F0 hq fun rs e1 he hx vs H1 fo1 fs1 O S1 F1 st ts nw => ?_
  have hx : Res c W σ (KE c σ (muL qs ++ ioBl [] qs) en H fo fs Q) (callD (fun ds => C.fn f (permL ks ds)) [] [] rs e1) := by
    rw [if_neg (by rw [hke]; exact Bool.false_ne_true)] at hx
    exact hx
  have hx : Res c W σ (KE c σ (muL qs ++ []) en H fo fs Q) (callD (fun ds => C.fn f (permL ks ds)) [] [] rs e1) := hx
  exact spD_perm hk ((call_ok F0 F1 st ts nw (by rw [evL_len qs en rs e1 he, hl]) hx).cast S ht)
/-! a name of the module that holds a plain value; an empty dict; nothing -/
theorem sem_gl (G : Gd X c W) {g : Nat} {x : Str} {d : D} {v : V} {u : Value} {pos : Pos} (hg : Gl X x) (hm : X.mg x = some u) (r : L2.RelV v u) (hd : (x == ("__debug__" : Str)) = false) (hC : C.gl g = some d) (hr : ∀ H, RO c H d 0 v [] []) : PEq X c W C (.Name x pos) (.gl g) := by
  refine (pe_glob hg hm r hd).imp fun σ H Q h => ?_
  obtain ⟨en, fo, fs, F, hq⟩ := h
  have hq : Res c W σ (KE c σ [] en H fo fs Q) (okD (C.gl g) en) := hq
  rw [hC] at hq
  exact KE.atom hq F .refl (hr H)
theorem sem_dic0 (G : Gd X c W) {pos : Pos} : PEq X c W C (.Dict [] [] pos) .dic0 := by
  refine pe_dnewK.imp fun σ H Q h => ?_
  obtain ⟨en, fo, fs, F, hq⟩ := h
  have hq : KE c σ [] en H fo fs Q (.dict [], .own 0) en := hq
  intro p hp
  refine hq (.ref p) _ fo fs [] [p] (F.laid hp) (Step.laid hp) ⟨by rw [RO]; exact ⟨p, rfl, upd_same, rfl, rfl⟩, List.nodup_nil, by simp, by simp, fun a ha i => ?_, by simp, fun a ha => ?_⟩ ⟨by simp, fun a ha => ?_⟩
  · rw [List.mem_singleton] at ha; subst ha; exact fun h => F.there (.inl h) hp
  · rw [List.mem_singleton] at ha; subst ha; exact (F.newSrc hp).imp id .inl
  · rw [List.mem_singleton] at ha; subst ha; exact .inl hp
theorem sem_stk {e : Expr} : PEq X c W C e .stk := ⟨fun pins s σ H Q I h => by
  obtain ⟨en, fo, fs, F, hq⟩ := h
  exact (show False from hq).elim⟩
end
end QQ
namespace QQ
open PySem L2 PyProof.Rows

/-- what lambdas promise -/
structure LamFn (P : Program) (w : World) (K : PySem.W.Frag) (mg : Str → Option Value) (base : Heap) (k : Nat) (cb : Cb) (co : Nat → List D → List D → CO) : Prop where
  ref : ∀ H l vs v, cb.lamR H l vs v → ∃ f, v = .ref f
  at_ : ∀ H h l vs f, HOk P w H h → cb.lamR H l vs (.ref f) → PySem.W.FnAt f h
  run : ∀ (A : Around) (outer : List Env) (s : Shared) (H : Hp) (l : Nat) (vs : List D) (f : Addr) (us : List Value) (xs : List V) (Q : VK) (E : XK), Room k A → Env0 P w K mg base A outer s H → cb.lamR H l vs (.ref f) → Vals xs us → spD cb xs.length [] (co l vs) xs H Q E →
    codeAny (model P w) A (.call (.ref f) ⟨us, []⟩) (CR (L2.CX P w) outer P w H s Q E) s
/-- all that a call of a name may be -/
structure FvOk (X : Cx) (cb : Cb) (C : Orc) : Prop where
  lam : ∃ k, LamFn X.prog X.w X.K X.mg X.base k cb C.lam ∧ Room k X.A
  fn : ∀ (f : Nat) co, C.fnv f = some co → ∃ np kb x, DefOk X cb x np [] kb co ∧ X.mg x = some (.ref (cb.fa f)) ∧ ∀ ds : List D, ds.length ≠ np → co ds = .stuck
section
variable {X : Cx} {c cb : Cb} {W : WX} {C : Orc}
theorem sem_calv (G : Gd X c W) (S : c.Same cb) (ht : cb.tb = c.tb) (V : FvOk X cb C) {i : Nat} {x : Str} {e : Expr} {es : List Expr} {qs : EL} {p pos : Pos} (ho : PE X (.Name x p) (tVar i)) (ha : PAq X c W C (e :: es) qs) (hs : noStars (e :: es) = true) : PEq X c W C (.Call (.Name x p) (e :: es) [] pos) (.calv i qs) := by
  have hs' : (noStar e && noStars es) = true := hs
  rw [Bool.and_eq_true] at hs'
  refine ⟨fun pins s σ H Q I h => ?_⟩
  obtain ⟨en, fo, fs, F, hq⟩ := h
  have hq : Res c W σ (KE c σ (muL qs) en H fo fs Q) (match en[i]? with
    | some (some (.dict [(.none, .int f)], _)) => match C.fnv f.toNat with
      | some co => if (muL qs).contains i then .stuck else (evL C qs en).bind fun rs e1 => callD co [] [] rs e1
      | none => .stuck
    | some (some (.dict [(.none, .int l), (.none, .tuple vs)], _)) => if (muL qs).contains i then .stuck else (evL C qs en).bind fun rs e1 => callD (C.lam l.toNat vs) [] [] rs e1
    | _ => .stuck) := hq
  -- the value that is called
  have name : ∀ v, σ[i]? = some (some v) → ∀ R : Value → Shared → Prop, (∀ u s1, Inv X pins σ H s1 → L2.RelV v u → R u s1) → wpAny (model X.prog X.w) X.A (eval (.Name x p) X.env) R X.xe s := fun v hv R k =>
    thn (ho.run pins s σ H (fun y H1 => y = v ∧ H1 = H) I ⟨v, hv, rfl, rfl⟩) fun u s1 ⟨y, H1, I1, r1, e1, e2⟩ => by
      subst e1 e2; exact k u s1 I1 r1
  split at hq
  · -- a def
    rename_i f n he
    cases hco : C.fnv f.toNat with
    | none => rw [hco] at hq; exact hq.elim
    | some co =>
      rw [hco] at hq
      have hq : Res c W σ (KE c σ (muL qs) en H fo fs Q) (if (muL qs).contains i then .stuck else (evL C qs en).bind fun rs e1 => callD co [] [] rs e1) := hq
      split at hq
      · exact hq.elim
      · rename_i hmu
        obtain ⟨v, hv, rd⟩ := F.rel i _ _ he
        rw [RO] at rd
        have rd : v = .ref (c.fa f.toNat) ∧ fo i = [] ∧ fs i = [] := rd
        obtain ⟨rfl, _, _⟩ := rd
        refine wpAny_Call_Name_kw (name _ hv _ fun u s1 I1 r1 => ?_)
        cases r1
        obtain ⟨np, kb, y, Df, hy, hst⟩ := V.fn f.toNat co hco
        obtain ⟨k, fa, fd, ps, Fn, hr, hm, hk, hb, _, hdb⟩ := Df.ex
        rw [hy] at hm
        cases hm
        have hfa : c.fa f.toNat = cb.fa f.toNat := by rw [S.hfa]
        rw [hfa]
        refine PySem.W.callWith_K (h₀ := X.base) I.ok.mod.kin hk (thn (ha.run pos pins s1 σ H (fun vs H1 => spD cb np [] co vs H1 Q (WE W σ)) I1 ?_) fun us s2 ⟨vs, H2, I2, r, q⟩ => ⟨I2.kIn, ?_⟩) (star_cons hs'.1 _ _) (star_any hs'.2 _ _)
        · have hq : Res c W σ (KE c σ (muL qs ++ []) en H fo fs Q) ((evL C qs en).bind fun rs e1 => callD co [] [] rs e1) := by rw [List.append_nil]; exact hq
          refine tA_seqE F hq fun rs e1 he hx vs H1 fo1 fs1 O S1 F1 st ts nw => ?_
          by_cases hl : rs.length = np
          · exact (call_ok F F1 st ts nw hl hx).cast S ht
          · exfalso
            have h0 : co (dsOf rs) = .stuck := hst _ (by unfold dsOf; rw [List.length_map]; exact hl)
            have hx : Res c W σ (KE c σ (muL qs ++ []) en H fo fs Q) (if argsOk (jsOf []) [] rs && decide (jsOf []).Nodup then match co (dsOf rs) with
              | .ret d k ios => if anyRoot [] rs && !full k d then .stuck else match setIos [] [] ios e1 with
                | some e' => .ok (d, .own k) e'
                | none => .stuck
              | .exc x ios => if excOk x then match setIos [] [] ios e1 with
                | some e' => .exc x e'
                | none => .stuck
                else .stuck
              | .stuck => .stuck
            else .stuck) := hx
            rw [h0] at hx
            split at hx <;> exact hx
        · have r2 : Vals (vs ++ []) (us ++ []) := by rw [List.append_nil, List.append_nil]; exact r
          exact run_fnSD (dvs := []) (ds := []) (E := WE W) Fn hr hb .nil (passAt G.tk σ) I2 r (by rw [List.append_nil]; exact q)
  · rename_i l vs0 n he
    split at hq
    · exact hq.elim
    · rename_i hmu
      have hmu : i ∉ muL qs := by simpa using hmu
      obtain ⟨v, hv, rd⟩ := F.rel i _ _ he
      obtain ⟨k, L, hr⟩ := V.lam
      have rd0 : cb.lamR H l.toNat vs0 v := by
        rw [RO] at rd
        have rd : c.lamR H l.toNat vs0 v ∧ fo i = [] ∧ fs i = [] := rd
        exact S.hla ▸ rd.1
      obtain ⟨f, rfl⟩ := L.ref _ _ _ _ rd0
      refine wpAny_Call_Name_kw (name _ hv _ fun u s1 I1 r1 => ?_)
      cases r1
      refine PySem.W.callWith_F (first := []) (L.at_ _ _ _ _ _ I1.hok rd0) (thn (ha.run pos pins s1 σ H (fun xs H1 => cb.lamR H1 l.toNat vs0 (.ref f) ∧ spD cb xs.length [] (C.lam l.toNat vs0) xs H1 Q (WE W σ)) I1 ?_) fun us s2 ⟨xs, H2, I2, r, rl, q⟩ => ⟨L.at_ _ _ _ _ _ I2.hok rl, ?_⟩) (star_cons hs'.1 _ _) (star_any hs'.2 _ _)
      · have hq : Res c W σ (KE c σ (muL qs ++ []) en H fo fs Q) ((evL C qs en).bind fun rs e1 => callD (C.lam l.toNat vs0) [] [] rs e1) := by rw [List.append_nil]; exact hq
        refine tA_seqE F hq fun rs e1 he hx xs H1 fo1 fs1 O S1 F1 st ts nw => ?_
        refine ⟨cb.lamS H H1 (fun a y ea hf => st.stab F (L := []) (fun a ha => by cases ha) a y ea (.inl hf)) _ _ _ rd0, ?_⟩
        exact (call_ok F F1 st ts nw ts.len hx).cast S ht
      · show wpAny _ _ (call (.ref f) us) _ _ _
        refine wpAny_call (codeAny_mono (L.run X.A X.stack s2 H2 l.toNat vs0 f us xs Q (WE W σ) hr I2.env0 rl r q) fun r s' hq => ?_)
        cases r with
        | error e => exact passAt G.tk σ pins H2 s2 e s' I2 hq
        | ok fl =>
          cases fl with
          | ret u => exact I2.after hq
          | next => exact False.elim hq
          | brk => exact False.elim hq
          | cont => exact False.elim hq
  · exact hq.elim
/-- a def as a value -/
theorem sem_fnv (G : Gd X c W) (S : c.Same cb) {f : Nat} {x : Str} {pos : Pos} (hg : Gl X x) (hm : X.mg x = some (.ref (cb.fa f))) (hd : (x == ("__debug__" : Str)) = false) : PEq X c W C (.Name x pos) (.fnv f) := by
  refine (pe_glob (v := .ref (cb.fa f)) hg hm rfl hd).imp fun σ H Q h => ?_
  obtain ⟨en, fo, fs, F, hq⟩ := h
  have hq : KE c σ [] en H fo fs Q (fnD f, .own 0) en := hq
  refine KE.atom hq F .refl ?_
  rw [show fnD f = .dict [(.none, .int f)] from rfl, RO]
  exact ⟨by rw [← S.hfa]; rfl, rfl, rfl⟩
end
end QQ
namespace QQ
open PySem L2 PyProof.Rows

mutual
theorem nl_of_lf : ∀ (d : D), lf d = true → nl d = true
  | .none, _ => rfl
  | .bool _, _ => rfl
  | .int _, _ => rfl
  | .str _, _ => rfl
  | .list _, h => by cases h
  | .dict _, h => by cases h
  | .tuple xs, h => nls_of_lfs xs h
theorem nls_of_lfs : ∀ (ds : List D), lfs ds = true → nls ds = true
  | [], _ => rfl
  | d :: ds, h => by
    have h : (lf d && lfs ds) = true := h
    rw [Bool.and_eq_true] at h
    show (nl d && nls ds) = true
    rw [nl_of_lf d h.1, nls_of_lfs ds h.2]; rfl
end
/-- tuples, things known to the object, and the things at L stay -/
def StabN (H H' : Hp) (L : List Addr) : Prop := ∀ a x, H a = some x → (∃ xs, x = .tup xs) ∨ (∃ o u, x = .frz o u) ∨ a ∈ L → H' a = some x
theorem StabN.sub {H H' : Hp} {L L' : List Addr} (h : StabN H H' L) (hs : ∀ a, a ∈ L' → a ∈ L) : StabN H H' L' := fun a x e q => h a x e (q.imp id fun q => q.imp id (hs a))
section
variable {c : Cb}
theorem sqN_stabN {H H' : Hp} {L : List Addr} {a : Addr} {xs : List V} (k : StabN H H' L) (q : SqN c.K H a xs) : SqN c.K H' a xs := by
  obtain ⟨q1, q2⟩ := q
  refine ⟨?_, ?_⟩
  · rcases q1 with (q | ⟨o, q⟩) | q
    · exact .inl (.inl (k _ _ q (.inl ⟨_, rfl⟩)))
    · exact .inl (.inr ⟨o, k _ _ q (.inr (.inl ⟨_, _, rfl⟩))⟩)
    · exact .inr q
  · rcases q2 with ⟨o, u, e, d⟩ | q
    · exact .inl ⟨o, u, k _ _ e (.inr (.inl ⟨_, _, rfl⟩)), d⟩
    · exact .inr q
mutual
theorem RO.stabN {H H' : Hp} : ∀ (d : D) (n : Nat) (v : V) (o s : List Addr), nl d = true → RO c H d n v o s → StabN H H' (o ++ s) → RO c H' d n v o s
  | .none, _, _, _, _, _, h, _ => by rw [RO] at h ⊢; exact h
  | .bool b, _, _, _, _, _, h, _ => by rw [RO] at h ⊢; exact h
  | .int i, _, _, _, _, _, h, _ => by rw [RO] at h ⊢; exact h
  | .str x, _, _, _, _, _, h, _ => by rw [RO] at h ⊢; exact h
  | .tuple ds, n, _, _, _, hn, h, k => by
    rw [RO] at h ⊢
    obtain ⟨a, vs, e, q, r⟩ := h
    exact ⟨a, vs, e, sqN_stabN k q, ROs.stabN ds n vs _ _ hn r k⟩
  | .list ds, 0, _, _, _, hn, h, k => by
    rw [RO] at h ⊢
    obtain ⟨a, vs, e, q, s', r, rfl⟩ := h
    exact ⟨a, vs, e, k a _ q (.inr (.inr (List.mem_append_right _ (List.mem_cons_self ..)))), s', ROs.stabN ds 0 vs _ _ hn r (k.sub fun b hb => (List.mem_append.mp hb).elim (fun z => List.mem_append_left _ z) fun z => List.mem_append_right _ (List.mem_cons_of_mem _ z)), rfl⟩
  | .list ds, m + 1, _, _, _, hn, h, k => by
    rw [RO] at h ⊢
    obtain ⟨a, vs, e, q, o', r, rfl⟩ := h
    exact ⟨a, vs, e, k a _ q (.inr (.inr (List.mem_append_left _ (List.mem_cons_self ..)))), o', ROs.stabN ds m vs _ _ hn r (k.sub fun b hb => (List.mem_append.mp hb).elim (fun z => List.mem_append_left _ (List.mem_cons_of_mem _ z)) fun z => List.mem_append_right _ z), rfl⟩
  | .dict kvs, _, _, _, _, hn, h, k => by
    rw [RO] at h ⊢
    cases kvs with
    | nil =>
      obtain ⟨a, e, q, rfl, rfl⟩ := h
      exact ⟨a, e, k a _ q (.inr (.inr (List.mem_cons_self ..))), rfl, rfl⟩
    | cons p ps => cases hn
theorem ROs.stabN {H H' : Hp} : ∀ (ds : List D) (n : Nat) (vs : List V) (o s : List Addr), nls ds = true → ROs c H ds n vs o s → StabN H H' (o ++ s) → ROs c H' ds n vs o s
  | [], _, _, _, _, _, h, _ => by rw [ROs] at h ⊢; exact h
  | d :: ds, n, _, _, _, hn, h, k => by
    have hn : (nl d && nls ds) = true := hn
    rw [Bool.and_eq_true] at hn
    rw [ROs] at h ⊢
    obtain ⟨v, vs', o1, s1, o2, s2, rfl, r1, r2, rfl, rfl⟩ := h
    exact ⟨v, vs', o1, s1, o2, s2, rfl, RO.stabN d n v o1 s1 hn.1 r1 (k.sub fun b hb => (List.mem_append.mp hb).elim (fun z => List.mem_append_left _ (List.mem_append_left _ z)) fun z => List.mem_append_right _ (List.mem_append_left _ z)),
      ROs.stabN ds n vs' o2 s2 hn.2 r2 (k.sub fun b hb => (List.mem_append.mp hb).elim (fun z => List.mem_append_left _ (List.mem_append_right _ z)) fun z => List.mem_append_right _ (List.mem_append_right _ z)), rfl, rfl⟩
end
end
/-! ### known objects -/
/-- the object at a is o -/
def ExO (a : Addr) (o : Obj) : HO := .ext fun h => h.get? a = some o
theorem exO_tup {a : Addr} {o : Obj} {xs : List V} : ExO a o ≠ .tup xs := fun z => by cases z
theorem exO_own {a b : Addr} {o : Obj} : ExO a o ≠ .own b := fun z => by cases z
theorem exO_frz {a : Addr} {o ob : Obj} {u : HO} : ExO a o ≠ .frz ob u := fun z => by cases z
theorem exO_tbl {a : Addr} {o : Obj} {ps : Array Value} : ExO a o ≠ .tbl ps := fun z => by cases z
theorem exO_lst {a : Addr} {o : Obj} {xs : List V} : ExO a o ≠ .lst xs := fun z => by cases z
/-- without the things at L -/
def minus (H : Hp) (L : List Addr) : Hp := fun b => if b ∈ L then none else H b
/-- with what X tells of the things at L -/
def plus (H X : Hp) (L : List Addr) : Hp := fun b => if b ∈ L then X b else H b
theorem minus_in {H : Hp} {L : List Addr} {b : Addr} (h : b ∈ L) : minus H L b = none := if_pos h
theorem minus_out {H : Hp} {L : List Addr} {b : Addr} (h : b ∉ L) : minus H L b = H b := if_neg h
theorem plus_in {H X : Hp} {L : List Addr} {b : Addr} (h : b ∈ L) : plus H X L b = X b := if_pos h
theorem plus_out {H X : Hp} {L : List Addr} {b : Addr} (h : b ∉ L) : plus H X L b = H b := if_neg h
section
variable {P : Program} {w : World} {H H' X : Hp} {h h' : Heap} {L : List Addr}
theorem exO_at {a : Addr} {o : Obj} (hok : HOk P w H h) (e : H a = some (ExO a o)) : h.get? a = some o := (hok a _ e).1
theorem HOk.minus (hok : HOk P w H h) (hL : ∀ b, b ∈ L → ∃ o, H b = some (ExO b o)) : HOk P w (minus H L) h := fun a x e => by
  by_cases ha : a ∈ L
  · rw [minus_in ha] at e; cases e
  · rw [minus_out ha] at e
    refine (hok a x e).stay (fun _ _ _ q => q) (fun b hb => ?_) fun b xs hb => ?_
    · rw [minus_out fun z => ?_]; exact hb
      obtain ⟨o, ho⟩ := hL b z
      rw [ho] at hb
      exact exO_own (Option.some.inj hb)
    · rw [minus_out fun z => ?_]; exact hb
      obtain ⟨o, ho⟩ := hL b z
      rw [ho] at hb
      exact exO_tup (Option.some.inj hb)
theorem HOk.plus (hok : HOk P w H h) (hL : ∀ b, b ∈ L → H b = none ∧ ∃ o, h.get? b = some o ∧ X b = some (ExO b o)) : HOk P w (plus H X L) h := fun a x e => by
  by_cases ha : a ∈ L
  · rw [plus_in ha] at e
    obtain ⟨_, o, h1, h2⟩ := hL a ha
    rw [h2] at e
    cases e
    exact ⟨h1, ⟨o, h1⟩, fun g1 g2 p k => k o p⟩
  · rw [plus_out ha] at e
    refine (hok a x e).stay (fun _ _ _ q => q) (fun b hb => ?_) fun b xs hb => ?_
    · rw [plus_out fun z => ?_]; exact hb
      rw [(hL b z).1] at hb; cases hb
    · rw [plus_out fun z => ?_]; exact hb
      rw [(hL b z).1] at hb; cases hb
end
section
variable {P : Program} {w : World} {K : PySem.W.Frag} {mg : Str → Option Value} {base : Heap} {A : Around} {outer : List Env} {s s' : Shared} {H H' X : Hp} {L : List Addr} {u : Value} {Q Q' : VK}
theorem env0_minus (e : Env0 P w K mg base A outer s H) (hL : ∀ b, b ∈ L → ∃ o, H b = some (ExO b o)) : Env0 P w K mg base A outer s (minus H L) where
  frames := e.frames
  mod := e.mod
  bs := fun b o z => ⟨(e.bs b o z).1, by
    have := (e.bs b o z).2
    by_cases hb : b ∈ L
    · exact minus_in hb
    · rw [minus_out hb]; exact this⟩
  bsz := e.bsz
  funs := e.funs
  frf := fun b hb => by
    by_cases hb2 : b ∈ L
    · exact minus_in hb2
    · rw [minus_out hb2]; exact e.frf b hb
  hok := HOk.minus e.hok hL
  bare := e.bare
theorem env0_plus (e : Env0 P w K mg base A outer s H) (hL : ∀ b, b ∈ L → H b = none ∧ ∃ o, s.heap.get? b = some o ∧ X b = some (ExO b o)) (hb : ∀ b, b ∈ L → base.get? b = none) (hf : ∀ b, b ∈ L → b ∉ frs outer) : Env0 P w K mg base A outer s (plus H X L) where
  frames := e.frames
  mod := e.mod
  bs := fun b o z => ⟨(e.bs b o z).1, by
    rw [plus_out fun q => ?_]; exact (e.bs b o z).2
    rw [hb b q] at z; cases z⟩
  bsz := e.bsz
  funs := e.funs
  frf := fun b hb2 => by rw [plus_out fun q => hf b q hb2]; exact e.frf b hb2
  hok := HOk.plus e.hok hL
  bare := e.bare
/-- a call that did not know the things at L: they are as they were -/
theorem ce_minus (e0 : Env0 P w K mg base A outer s H) (hL : ∀ b, b ∈ L → ∃ o, H b = some (ExO b o)) (h : CE outer P w (minus H L) s Q' u s') (k : ∀ v H', (∀ b, b ∈ L → H' b = none) → Q' v H' → Q v (plus H' H L)) : CE outer P w H s Q u s' := by
  obtain ⟨v, H', os, bare, un, hok, r, q⟩ := h
  have nf : ∀ b, b ∈ L → b ∉ frs outer := fun b hb z => by
    obtain ⟨o, ho⟩ := hL b hb
    rw [e0.frf b z] at ho; cases ho
  have out : ∀ b, H b = none → b ∉ L := fun b e z => by
    obtain ⟨o, ho⟩ := hL b z
    rw [e] at ho; cases ho
  have gone : ∀ b, b ∈ L → H' b = none := fun b hb => by
    obtain ⟨o, ho⟩ := hL b hb
    exact un.free b o (exO_at e0.hok ho) (minus_in hb) (by simp)
  refine ⟨v, plus H' H L, os, bare, ⟨fun b o e n hf hx => ?_, fun b o e n hf hx => ?_, fun b o e n hx => ?_, fun b o e hx => un.there b o e hx, fun b xs e => ?_, fun b o x e => ?_, fun b ps e => ?_⟩, HOk.plus hok fun b hb => ?_, r, k v H' gone q⟩
  · exact un.keep b o e (by rw [minus_out (out b n)]; exact n) hf hx
  · exact un.slot b o e (by rw [minus_out (out b n)]; exact n) hf hx
  · rw [plus_out (out b n)]; exact un.free b o e (by rw [minus_out (out b n)]; exact n) hx
  · have hb : b ∉ L := fun z => by
      obtain ⟨o, ho⟩ := hL b z
      rw [ho] at e; exact exO_tup (Option.some.inj e)
    rw [plus_out hb]; exact un.tups b xs (by rw [minus_out hb]; exact e)
  · have hb : b ∉ L := fun z => by
      obtain ⟨o', ho⟩ := hL b z
      rw [ho] at e; exact exO_frz (Option.some.inj e)
    rw [plus_out hb]; exact un.frzs b o x (by rw [minus_out hb]; exact e)
  · have hb : b ∉ L := fun z => by
      obtain ⟨o', ho⟩ := hL b z
      rw [ho] at e; exact exO_tbl (Option.some.inj e)
    rw [plus_out hb]; exact un.tbls b ps (by rw [minus_out hb]; exact e)
  · obtain ⟨o, ho⟩ := hL b hb
    exact ⟨gone b hb, o, un.keep b o (exO_at e0.hok ho) (minus_in hb) (nf b hb) (by simp), ho⟩
/-- a call that knew the things at L: they are forgotten again -/
theorem ce_plus (hL : ∀ b, b ∈ L → H b = none ∧ ∃ o, s.heap.get? b = some o ∧ X b = some (ExO b o)) (hf : ∀ b, b ∈ L → b ∉ frs outer) (h : CE outer P w (plus H X L) s Q' u s') (k : ∀ v H', HOk P w H' s'.heap → Q' v H' → (∀ b, b ∈ L → H' b = X b) ∧ Q v (minus H' L)) : CE outer P w H s Q u s' := by
  obtain ⟨v, H', os, bare, un, hok, r, q⟩ := h
  obtain ⟨kX, kQ⟩ := k v H' hok q
  have known : ∀ b, b ∈ L → ∃ o, s.heap.get? b = some o ∧ s'.heap.get? b = some o ∧ H' b = some (ExO b o) := fun b hb => by
    obtain ⟨_, o, h1, h2⟩ := hL b hb
    have e := (kX b hb).trans h2
    exact ⟨o, h1, exO_at hok e, e⟩
  refine ⟨v, minus H' L, os, bare, ⟨fun b o e n hf2 hx => ?_, fun b o e n hf2 hx => ?_, fun b o e n hx => ?_, fun b o e hx => un.there b o e hx, fun b xs e => ?_, fun b o x e => ?_, fun b ps e => ?_⟩, HOk.minus hok fun b hb => let ⟨o, _, _, e⟩ := known b hb; ⟨o, e⟩, r, kQ⟩
  · by_cases hb : b ∈ L
    · obtain ⟨o', h1, h2, _⟩ := known b hb
      rw [e] at h1; cases h1; exact h2
    · exact un.keep b o e (by rw [plus_out hb]; exact n) hf2 hx
  · exact un.slot b o e (by rw [plus_out fun z => hf b z hf2]; exact n) hf2 hx
  · by_cases hb : b ∈ L
    · exact minus_in hb
    · rw [minus_out hb]; exact un.free b o e (by rw [plus_out hb]; exact n) hx
  · have hb : b ∉ L := fun z => by rw [(hL b z).1] at e; cases e
    rw [minus_out hb]; exact un.tups b xs (by rw [plus_out hb]; exact e)
  · have hb : b ∉ L := fun z => by rw [(hL b z).1] at e; cases e
    rw [minus_out hb]; exact un.frzs b o x (by rw [plus_out hb]; exact e)
  · have hb : b ∉ L := fun z => by rw [(hL b z).1] at e; cases e
    rw [minus_out hb]; exact un.tbls b ps (by rw [plus_out hb]; exact e)
end
end QQ
namespace QQ
open PySem L2 PyProof.Rows

/-- the same, without lambdas -/
def Cb.noLam (c : Cb) : Cb := { c with lamR := fun _ _ _ _ => False, lamS := fun _ _ _ _ _ _ h => h }
mutual
theorem RO.lfTo {c c' : Cb} (hK : c.K = c'.K) {H : Hp} : ∀ (d : D) (n : Nat) (v : V) (o s : List Addr), QQ.lf d = true → RO c H d n v o s → RO c' H d n v o s
  | .none, _, _, _, _, _, h => by rw [RO] at h ⊢; exact h
  | .bool b, _, _, _, _, _, h => by rw [RO] at h ⊢; exact h
  | .int i, _, _, _, _, _, h => by rw [RO] at h ⊢; exact h
  | .str x, _, _, _, _, _, h => by rw [RO] at h ⊢; exact h
  | .list _, _, _, _, _, hl, _ => by cases hl
  | .dict _, _, _, _, _, hl, _ => by cases hl
  | .tuple ds, n, _, _, _, hl, h => by
    rw [RO] at h ⊢
    obtain ⟨a, vs, e, q, r⟩ := h
    exact ⟨a, vs, e, hK ▸ q, ROs.lfTo hK ds n vs _ _ hl r⟩
theorem ROs.lfTo {c c' : Cb} (hK : c.K = c'.K) {H : Hp} : ∀ (ds : List D) (n : Nat) (vs : List V) (o s : List Addr), QQ.lfs ds = true → ROs c H ds n vs o s → ROs c' H ds n vs o s
  | [], _, _, _, _, _, h => by rw [ROs] at h ⊢; exact h
  | d :: ds, n, _, _, _, hl, h => by
    have hl : (QQ.lf d && QQ.lfs ds) = true := hl
    rw [Bool.and_eq_true] at hl
    rw [ROs] at h ⊢
    obtain ⟨v, vs', o1, s1, o2, s2, rfl, r1, r2, rfl, rfl⟩ := h
    exact ⟨v, vs', o1, s1, o2, s2, rfl, RO.lfTo hK d n v o1 s1 hl.1 r1, ROs.lfTo hK ds n vs' o2 s2 hl.2 r2, rfl, rfl⟩
end
/-- what the cells at cl hold of the names -/
def Caps (c : Cb) (H : Hp) (cl : List (Str × Addr)) : List Str → List D → Prop
  | [], vs => vs = []
  | y :: ys, vs => ∃ d ds ci oc u w, vs = d :: ds ∧ cl.lookup y = some ci ∧ H ci = some (ExO ci oc) ∧ oc.data = .cell (some u) ∧ L2.RelV w u ∧ lf d = true ∧ RO c.noLam H d 0 w [] [] ∧ Caps c H cl ys ds
abbrev lamObj (q : Str) (params : Arguments) (body : Expr) (scope : Scope) (cl : List (Str × Addr)) (pm : Value) (c' : Addr) (ctv : Value) : Obj := PySem.W.kla_obj "<lambda>" q params body scope cl pm c' ctv
/-! ### the lambda is made -/
section
variable {X : Cx} {pins : List (Addr × Obj)} {σ : L2.St} {H : Hp} {s : Shared}
/-- a table grows by one code object -/
theorem tabs_grow {T : List NdefX.NTab} {q : Str} {P c' : Addr} {ps : Array Value} {p0 : Pos} (hT : NdefX.TabsN T H) (hm : (P, fun _ _ => q) ∈ T) (hu : ∀ t, t ∈ T → t.1 = P → t.2 = fun _ _ => q) (hP : H P = some (.tbl ps)) (ht : TriplesOk ps.toList) (nC : H c' = none) {H' : Hp}
    (eH : H' = upd (upd H P (.tbl (ps ++ #[rawInt p0.line, rawInt p0.col, .ref c']))) c' (LamX.CodeO c' q)) : LamX.ExtN H H' ∧ NdefX.TabsN T H' ∧ H' c' = some (LamX.CodeO c' q) ∧ ∀ b, H b ≠ none → H' b ≠ none := by
  subst eH
  have nPc : P ≠ c' := ne_of_none hP nC
  have ext : LamX.ExtN H (upd (upd H P (.tbl (ps ++ #[rawInt p0.line, rawInt p0.col, .ref c']))) c' (LamX.CodeO c' q)) := fun b x e nt => by
    have h1 : b ≠ c' := ne_of_none e nC
    have h2 : b ≠ P := fun z => by
      rw [z, hP] at e
      exact nt ps (Option.some.inj e).symm
    rw [upd_ne h1, upd_ne h2]; exact e
  refine ⟨ext, fun t ht2 => ?_, upd_same, fun b hb => ?_⟩
  · obtain ⟨ps', a1, a2, a3⟩ := hT t ht2
    by_cases hb : t.1 = P
    · rw [hu t ht2 hb] at a3 ⊢
      rw [hb] at a1 ⊢
      rw [hP] at a1
      cases a1
      refine ⟨ps ++ #[rawInt p0.line, rawInt p0.col, .ref c'], by rw [upd_ne nPc, upd_same], ?_, fun p' cv hcv => ?_⟩
      · rw [Array.toList_append]; exact PySem.TriplesOk_snoc _ _ _ _ ht
      · rw [Array.toList_append] at hcv
        rcases LamX.among_app _ ht hcv with z | z
        · obtain ⟨c0, e1, e2⟩ := a3 p' cv z
          exact ⟨c0, e1, ext _ _ e2 LamX.codeO_ne⟩
        · exact ⟨c', z, upd_same⟩
    · refine ⟨ps', ?_, a2, fun p' cv hcv => ?_⟩
      · rw [upd_ne (ne_of_none a1 nC), upd_ne hb]; exact a1
      · obtain ⟨c0, e1, e2⟩ := a3 p' cv hcv
        exact ⟨c0, e1, ext _ _ e2 LamX.codeO_ne⟩
  · by_cases h1 : b = c'
    · rw [h1, upd_same]; simp
    · rw [upd_ne h1]
      by_cases h2 : b = P
      · rw [h2, upd_same]; simp
      · rw [upd_ne h2]; exact hb
/-- an object just made is known -/
theorem inv_ex {o : Obj} {t' : Nat} (I : Inv X pins σ H s) (hf : o.isFreed = false) : Inv X pins σ (upd H s.heap.objs.size (ExO s.heap.objs.size o)) { s with heap := s.heap.push o, toks := t' } :=
  I.laid (a := s.heap.objs.size) (fun b u e => Heap.get?_push_of_some _ e) (Nat.le_refl _) ⟨Heap.get?_push_size _ hf, ⟨o, Heap.get?_push_size _ hf⟩, fun h1 h2 p k => k o p⟩
theorem lam_make3 {T : List NdefX.NTab} {c P : Addr} {params : Arguments} {body : Expr} {scope : Scope} {p0 : Pos} {E : Value → Shared → Prop} {Q : Value → Shared → Prop} (I : Inv X pins σ H s) (TB : LamX.TabB X.base X.mg c P) (hcode : X.env.code = .ref c)
    (hm : (P, fun _ _ => X.env.qual ++ "<lambda>") ∈ T) (hu : ∀ t, t ∈ T → t.1 = P → t.2 = fun _ _ => X.env.qual ++ "<lambda>") (hT : NdefX.TabsN T H) (hdef : defaultsOf params X.env = ([], [])) (hfree : ∀ y ∈ scope.names, y.2 = .free → ∃ c, X.env.cells.lookup y.1 = some c)
    (h : ∀ (f c' : Addr) (pm ctv : Value) (H1 : Hp) (s' : Shared), Inv X pins σ H1 s' → LamX.ExtN H H1 → (∀ b, H b ≠ none → H1 b ≠ none) → NdefX.TabsN T H1 → H f = none → H1 f = some (ExO f (lamObj (X.env.qual ++ "<lambda>") params body scope (cloFrom X.env.cells scope.names []) pm c' ctv)) → H1 c' = some (LamX.CodeO c' (X.env.qual ++ "<lambda>")) → Q (.ref f) s') :
    wpAny (model X.prog X.w) X.A (eval (.Lambda params body scope p0) X.env) Q E s := by
  obtain ⟨ps, hP, ht, ha⟩ := hT _ hm
  have bP : s.heap.BuiltinsAt X.mg P := TB.bm.keeps I.bk
  have hP' : s.heap.get? P = some { cls := .none, data := .fields ps } := I.hok P _ hP
  refine PySem.W.kla_eval hdef ?_
  -- behind the code object: the function's object
  have fin : ∀ (c' : Addr) (ctv : Value) (H2 : Hp) (h2 : Heap) (tk : Nat), Inv X pins σ H2 { s with heap := h2, toks := tk } → LamX.ExtN H H2 → (∀ b, H b ≠ none → H2 b ≠ none) → NdefX.TabsN T H2 → H2 c' = some (LamX.CodeO c' (X.env.qual ++ "<lambda>")) → s.heap.objs.size ≤ h2.objs.size →
      Q (.ref h2.objs.size) { s with heap := h2.push (lamObj (X.env.qual ++ "<lambda>") params body scope (cloFrom X.env.cells scope.names []) ((X.mg "__name__").getD .none) c' ctv), toks := tk } := fun c' ctv H2 h2 tk I2 e1 e2 e3 e4 hsz => by
    have nF : H2 h2.objs.size = none := I2.hok.fresh (Nat.le_refl _)
    refine h h2.objs.size c' _ ctv _ _ (inv_ex (t' := tk) I2 rfl) (fun b x e nt => ?_) (fun b hb => ?_) (e3.ext fun b x e => ?_) (I.hok.fresh hsz) upd_same ?_
    · have := e1 b x e nt
      rw [upd_ne (ne_of_none this nF)]; exact this
    · by_cases z : b = h2.objs.size
      · rw [z, upd_same]; simp
      · rw [upd_ne z]; exact e2 b hb
    · rw [upd_ne (ne_of_none e nF)]; exact e
    · rw [upd_ne (ne_of_none e4 nF)]; exact e4
  cases hc : codeAmong p0 ps.toList with
  | none =>
    refine PySem.W.kla_makeFunction (mg := X.mg) (c := c) (P := P) (ps := ps) (closure_ok hfree) I.ok.glob (I.mod.glob.keeps I.bk) hcode (TB.code.keeps I.bk) hP' ht hc TB.gP bP fun c' ctv h2 tk hx hge hlt hrec htb => ?_
    obtain ⟨c2, oc, vs, t, e2, hoc, hd, hv⟩ := hrec
    cases e2
    obtain ⟨g1, g2, g3, g4⟩ := tabs_grow (p0 := p0) hT hm hu hP ht (I.hok.fresh hge) rfl
    exact fin c' ctv _ h2 tk (LamX.inv_table (t' := tk) (more := #[rawInt p0.line, rawInt p0.col, .ref c']) (h' := h2) I hP (fun b o hb e => hx b o hb e) htb hge ⟨oc, vs, t, hoc, hd, hv⟩) g1 g4 g2 g3 (Nat.le_trans hge (Nat.le_of_lt hlt))
  | some cv =>
    obtain ⟨c', e, hco⟩ := ha p0 cv hc
    subst e
    refine PySem.W.kla_makeFunctionHit (mg := X.mg) (c := c) (P := P) (ps := ps) (closure_ok hfree) I.ok.glob (I.mod.glob.keeps I.bk) hcode (TB.code.keeps I.bk) hP' ht hc bP fun ctv h2 tk hx hsz => ?_
    exact fin c' ctv H h2 tk (I.kept fun b o e => hx b o e) (LamX.ExtN.refl H) (fun _ z => z) hT hco hsz
end
/-! ### the call -/
structure LmOk (X : Cx) (cb : Cb) (ok : Nat → Arguments → Expr → Scope → Bool) (fr : Nat → List Str) : Prop where
  make : ∀ l params body scope, ok l params body scope = true → ∀ (H : Hp) (f c' : Addr) (q : Str) (cl : List (Str × Addr)) (pm ctv : Value) (vs : List D), H f = some (ExO f (lamObj q params body scope cl pm c' ctv)) → H c' = some (LamX.CodeO c' q) → Caps cb H cl (fr l) vs → (∀ y ci, cl.lookup y = some ci → y ∈ fr l) →
    (∀ x y ci, cl.lookup x = some ci → cl.lookup y = some ci → x = y) → cb.lamR H l vs (.ref f)
  df : ∀ l params body scope, ok l params body scope = true → ∀ env, defaultsOf params env = ([], [])
  fr1 : ∀ l params body scope, ok l params body scope = true → ∀ y, y ∈ fr l → (y, NameKind.free) ∈ scope.names
  fr2 : ∀ l params body scope, ok l params body scope = true → ∀ y ∈ scope.names, y.2 = .free → y.1 ∈ fr l
/-- the def's own table of code objects -/
structure TabOk (X : Cx) (cb : Cb) : Prop where
  tab : ∃ c P, LamX.TabB X.base X.mg c P ∧ X.env.code = .ref c ∧ (P, fun _ _ => X.env.qual ++ "<lambda>") ∈ cb.tb ∧ ∀ t, t ∈ cb.tb → t.1 = P → t.2 = fun _ _ => X.env.qual ++ "<lambda>"
  fn : ∀ x, X.fn x = true
/-- what is made of a lambda -/
def tG (X : Cx) (tb : List NdefX.NTab) (params : Arguments) (body : Expr) (scope : Scope) (k : V → Hp → Prop) (H : Hp) : Prop := NdefX.TabsN tb H ∧ ∀ (f c' : Addr) (pm ctv : Value) (H1 : Hp), LamX.ExtN H H1 → (∀ b, H b ≠ none → H1 b ≠ none) → NdefX.TabsN tb H1 → H f = none →
  H1 f = some (ExO f (lamObj (X.env.qual ++ "<lambda>") params body scope (cloFrom X.env.cells scope.names []) pm c' ctv)) → H1 c' = some (LamX.CodeO c' (X.env.qual ++ "<lambda>")) → k (.ref f) H1
def tSn (X : Cx) (c : Cb) (W : WX) (C : Orc) (params : Arguments) (body : Expr) (scope : Scope) (qs : EL) : TA := fun σ H Q => tAr c W (muL qs) (evL C qs) σ H fun vs H1 => tG X c.tb params body scope (fun w H2 => Q (vs ++ [w]) H2) H1
section
variable {X : Cx} {c cb : Cb} {W : WX} {C : Orc} {params : Arguments} {body : Expr} {scope : Scope} {lp : Pos}
theorem sn_nil (S : c.Same cb) (ht : cb.tb = c.tb) (T : TabOk X cb) (hdef : ∀ env, defaultsOf params env = ([], [])) (hfree : ∀ y ∈ scope.names, y.2 = .free → X.env.scope.names.lookup y.1 = some .cell ∨ X.env.scope.names.lookup y.1 = some .free) : L2.PA X [.Lambda params body scope lp] (tSn X c W C params body scope .nil) := by
  obtain ⟨cc, P, TB, hcode, hm, hu⟩ := T.tab
  refine ⟨fun pos pins s σ H Q I h => ?_⟩
  have h : tG X c.tb params body scope (fun w H2 => Q [w] H2) H := nil_read h
  obtain ⟨hT, h⟩ := h
  rw [ht] at hm hu
  show wpAny _ _ (spliced ((false, eval (.Lambda params body scope lp) X.env) :: backTo pos (starEach [] X.env))) _ _ s
  refine Calls.spliced_cons (lam_make3 I TB hcode hm hu hT (hdef _) (fun y hy e => I.ok.has _ ((hfree y hy e).imp id id)) fun f c' pm ctv H1 s' I1 e1 e2 e3 e4 e5 e6 => Calls.spliced_nil ?_)
  exact ⟨[.ref f], H1, I1, .cons rfl .nil, h f c' pm ctv H1 e1 e2 e3 e4 e5 e6⟩
theorem sn_cons {e : Expr} {es : List Expr} {q : E} {qs : EL} (he : PEq X c W C e q) (ha : L2.PA X es (tSn X c W C params body scope qs)) (hs : noStar e = true) : L2.PA X (e :: es) (tSn X c W C params body scope (.cons q qs)) :=
  (pa_cons he ha (star_cons hs _ _)).imp fun σ H Q h => cons_read h
/-- what the slots that a lambda captures hold -/
def CapS (c : Cb) (H : Hp) (σ : L2.St) : List Nat → List D → Prop
  | [], vs => vs = []
  | j :: js, vs => ∃ d ds w, vs = d :: ds ∧ σ[j]? = some (some w) ∧ lf d = true ∧ RO c.noLam H d 0 w [] [] ∧ CapS c H σ js ds
theorem capS_of {en : En} {σ : L2.St} {H : Hp} {fo fs : FP} (F : FR c en σ H fo fs) (hK : c.K = cb.noLam.K) : ∀ (js : List Nat) (vs : List D), capD en js = some vs → CapS cb H σ js vs
  | [], vs, h => by cases h; rfl
  | j :: js, vs, h => by
    have h : (match en[j]? with
      | some (some (d, _)) => if lf d then (capD en js).map (d :: ·) else none
      | _ => none) = some vs := h
    split at h
    · rename_i d n he
      split at h
      · rename_i hl
        cases hc : capD en js with
        | none => rw [hc] at h; cases h
        | some ds =>
          rw [hc] at h
          cases h
          obtain ⟨w, hw, r⟩ := F.rel j _ _ he
          exact ⟨d, ds, w, rfl, hw, hl, RO.lfTo hK d 0 w [] [] hl (RO.lf d n 0 w _ _ hl r).2.2, capS_of F hK js ds hc⟩
      · cases h
    · cases h
theorem CapS.ext {H H' : Hp} {σ : L2.St} (k : ∀ a x, H a = some x → (∀ ps, x ≠ .tbl ps) → H' a = some x) : ∀ (js : List Nat) (vs : List D), CapS c H σ js vs → CapS c H' σ js vs
  | [], vs, h => h
  | j :: js, vs, ⟨d, ds, w, e, hw, hl, r, t⟩ => ⟨d, ds, w, e, hw, hl, RO.stabN d 0 w [] [] (nl_of_lf d hl) r (fun a x ea q => k a x ea (by
      rcases q with ⟨xs, rfl⟩ | ⟨o, u, rfl⟩ | q
      · exact fun ps z => nomatch z
      · exact fun ps z => nomatch z
      · cases q)), CapS.ext k js ds t⟩
theorem ROa0.ext {H H' : Hp} (k : ∀ a x, H a = some x → (∀ ps, x ≠ .tbl ps) → H' a = some x) : ∀ {ds : List D} {vs : List V} {P : PA}, ROa c H [] ds vs P → ROa c H' [] ds vs P
  | [], _, _, h => h
  | d :: ds, _, _, ⟨v, vs', p, P', rfl, rfl, r, t⟩ => by
    refine ⟨v, vs', p, P', rfl, rfl, RO.stab d 0 v p.1 p.2 r fun a x ea q => k a x ea ?_, ROa0.ext k t⟩
    rcases q with q | q
    · intro ps z; rw [z] at q; cases q
    · have A := RO.at d 0 v p.1 p.2 r
      rcases List.mem_append.mp q with q | q
      · obtain ⟨xs, e⟩ := A.1 a q
        rw [e] at ea; cases ea; exact fun ps z => nomatch z
      · obtain ⟨y, e, _, ny⟩ := A.2 a q
        rw [e] at ea; cases ea; exact ny
theorem ROa0.snoc {H : Hp} {d : D} {v : V} : ∀ {ds : List D} {vs : List V} {P : PA}, ROa c H [] ds vs P → RO c H d 0 v [] [] → ROa c H [] (ds ++ [d]) (vs ++ [v]) (P ++ [([], [])])
  | [], _, _, ⟨rfl, rfl⟩, r => ⟨v, [], ([], []), [], rfl, rfl, r, rfl, rfl⟩
  | x :: ds, _, _, ⟨y, vs', p, P', rfl, rfl, r1, t⟩, r => ⟨y, _, p, _, rfl, rfl, r1, ROa0.snoc t r⟩
theorem apart_empty {P : PA} (h : ∀ p, p ∈ P → p.1 = []) : Apart P where
  nd := fun i p hp => by rw [h p (List.mem_of_getElem? hp)]; exact List.nodup_nil
  dj := fun i j p q hp hq a ha => by rw [h p (List.mem_of_getElem? hp)] at ha; cases ha
theorem pO_empty {P : PA} (h : ∀ p, p ∈ P → p.1 = []) (a : Addr) : a ∉ pO P := fun ha => by
  obtain ⟨i, p, hp, hm⟩ := of_pO ha
  rw [h p (List.mem_of_getElem? hp)] at hm
  cases hm
/-- the cells of the names that a lambda captures -/
theorem caps_of {X : Cx} {c : Cb} {pins : List (Addr × Obj)} {σ : L2.St} {H : Hp} {s : Shared} (I : Inv X pins σ H s) {cl : List (Str × Addr)} {Xh : Hp} {L : List Addr} (hX : ∀ b o, s.heap.get? b = some o → Xh b = some (ExO b o)) (hLn : ∀ b, b ∈ L → H b = none) :
    ∀ (fr : List Str) (cs : List Nat) (vs : List D), cs.map (fun j => X.N[j]?) = fr.map some → (∀ y, y ∈ fr → X.env.scope.names.lookup y = some .cell ∧ ∃ ci, X.env.cells.lookup y = some ci ∧ cl.lookup y = some ci ∧ ci ∈ L) → CapS c H σ cs vs → Caps c (plus H Xh L) cl fr vs
  | [], cs, vs, h1, h2, h => by
    cases cs with
    | nil => exact h
    | cons j cs => cases h1
  | y :: fr, cs, vs, h1, h2, h => by
    cases cs with
    | nil => cases h1
    | cons j cs =>
      have h1 := List.cons.inj h1
      obtain ⟨d, ds, w, rfl, hw, hl, r, t⟩ := h
      obtain ⟨hk, ci, hc, hcl2, hL⟩ := h2 y (List.mem_cons_self ..)
      obtain ⟨m, hn, hloc⟩ := I.loc
      obtain ⟨u, ru, lk⟩ := hloc j y w h1.1 hw (.inr (.inl hk))
      have cell : s.heap.IsCell ci (some u) := by
        rcases lk with ⟨k, _⟩ | ⟨_, c3, e', z⟩
        · have k : X.env.scope.names.lookup y = some .local := k
          rw [hk] at k; cases k
        · rw [hc] at e'; cases e'; exact z
      obtain ⟨oc, ho, hd⟩ := cell
      refine ⟨d, ds, ci, oc, u, w, rfl, hcl2, by rw [plus_in hL]; exact hX ci oc ho, hd, ru, hl, ?_, caps_of I hX hLn fr cs ds h1.2 (fun z hz => h2 z (List.mem_cons_of_mem _ hz)) t⟩
      refine RO.stabN d 0 w [] [] (nl_of_lf d hl) r fun a x ea q => ?_
      rw [plus_out fun z => ?_]; exact ea
      rw [hLn a z] at ea; cases ea
theorem codeO_exO {P : Program} {w : World} {H : Hp} {h : Heap} {a : Addr} {q : Str} {oc : Obj} (hok : HOk P w H h) (e : H a = some (LamX.CodeO a q)) (e2 : h.get? a = some oc) : ∀ v, oc.data ≠ .cell v := fun v z => by
  obtain ⟨⟨o, vs, t, h1, h2, _⟩, _, _⟩ := hok a _ e
  rw [e2] at h1
  cases h1
  rw [z] at h2
  cases h2
/-- tables without the cells at L -/
theorem tabs_minus {P : Program} {w : World} {T : List NdefX.NTab} {H : Hp} {h : Heap} {L : List Addr} (hT : NdefX.TabsN T H) (hok : HOk P w H h) (hL : ∀ b, b ∈ L → ∃ o v, H b = some (ExO b o) ∧ h.get? b = some o ∧ o.data = .cell v) : NdefX.TabsN T (minus H L) := fun t ht => by
  obtain ⟨ps, h1, h2, h3⟩ := hT t ht
  refine ⟨ps, ?_, h2, fun pos cv hc => ?_⟩
  · rw [minus_out fun z => ?_]; exact h1
    obtain ⟨o, v, e, _, _⟩ := hL _ z
    rw [h1] at e; exact exO_tbl (Option.some.inj e).symm
  · obtain ⟨c0, e1, e2⟩ := h3 pos cv hc
    refine ⟨c0, e1, ?_⟩
    rw [minus_out fun z => ?_]; exact e2
    obtain ⟨o, v, _, e, ed⟩ := hL _ z
    exact codeO_exO hok e2 e v ed
theorem tabs_plus {T : List NdefX.NTab} {H X : Hp} {L : List Addr} (hT : NdefX.TabsN T H) (hL : ∀ b, b ∈ L → H b = none) : NdefX.TabsN T (plus H X L) := hT.ext fun b o e => by
  rw [plus_out fun z => ?_]; exact e
  rw [hL b z] at e; cases e
theorem sem_callL (G : Gd X c W) (S : c.Same cb) (ht : cb.tb = c.tb) {lk : Nat → Arguments → Expr → Scope → Bool} {fr : Nat → List Str} (M : LmOk X cb lk fr) (T : TabOk X cb) {x : Str} {np f l : Nat} {kb : List KB} (Df : DefOk X cb x np [] kb (C.fn f)) (hg : Gl X x) {a0 : Expr} {as : List Expr} {qs : EL} {cs : List Nat} {p pos : Pos}
    (ok : lk l params body scope = true) (ha : L2.PA X (a0 :: as) (tSn X c W C params body scope qs)) (hs : noStars (a0 :: as) = true) (hl : elLen qs + 1 = np) (hcs : cs.map (fun j => X.N[j]?) = (fr l).map some) (hcell : ∀ y, y ∈ fr l → X.env.scope.names.lookup y = some .cell)
    (hfree : ∀ y ∈ scope.names, y.2 = .free → X.env.scope.names.lookup y.1 = some .cell ∨ X.env.scope.names.lookup y.1 = some .free) : PEq X c W C (.Call (.Name x p) (a0 :: as) [] pos) (.callL f qs l cs) := by
  obtain ⟨k, fa, fd, ps, Fn, hr, hm, hkp, hb, _, hdb⟩ := Df.ex
  have hs' : (noStar a0 && noStars as) = true := hs
  rw [Bool.and_eq_true] at hs'
  refine ⟨fun pins s σ H Q I h => ?_⟩
  obtain ⟨en, fo, fs, F, hq⟩ := h
  have hq : Res c W σ (KE c σ (muL qs ++ []) en H fo fs Q) ((evL C qs en).bind fun rs e1 => match capD e1 cs with
      | some vs => callD (fun ds => lamOut (C.fn f (ds ++ [loD l vs]))) [] [] rs e1
      | none => .stuck) := by rw [List.append_nil]; exact hq
  refine wpAny_Call_Name_kw (ld_glob I hg hm ?_ hdb)
  refine PySem.W.callWith_K (h₀ := X.base) I.ok.mod.kin hkp (thn (ha.run pos pins s σ H (fun xs H2 => ∃ (vs : List V) (ff c' : Addr) (pm ctv : Value) (vcap : List D) (H1 : Hp), xs = vs ++ [.ref ff] ∧ LamX.ExtN H1 H2 ∧ (∀ b, H1 b ≠ none → H2 b ≠ none) ∧ NdefX.TabsN cb.tb H2 ∧
      H2 ff = some (ExO ff (lamObj (X.env.qual ++ "<lambda>") params body scope (cloFrom X.env.cells scope.names []) pm c' ctv)) ∧ H2 c' = some (LamX.CodeO c' (X.env.qual ++ "<lambda>")) ∧ CapS cb H2 σ cs vcap ∧ vs.length + 1 = np ∧
      spD cb vs.length [] (fun ds => lamOut (C.fn f (ds ++ [loD l vcap]))) vs H1 Q (WE W σ)) I ?_) fun us s2 ⟨xs, H2, I2, r, q⟩ => ⟨I2.kIn, ?_⟩) (star_cons hs'.1 _ _) (star_any hs'.2 _ _)
  · -- the arguments
    refine tA_seqE F hq fun rs e1 he hx vs H1 fo1 fs1 O S1 F1 st ts nw => ⟨F1.tb, fun ff c' pm ctv H2 e1' e2' e3' e4' e5' e6' => ?_⟩
    cases hcp : capD e1 cs with
    | none => rw [hcp] at hx; exact hx.elim
    | some vcap =>
      rw [hcp] at hx
      have c0 : CapS cb H1 σ cs vcap := capS_of (cb := cb) F1 (show c.K = cb.K from S.hK.symm ▸ rfl) cs vcap hcp
      refine ⟨vs, ff, c', pm, ctv, vcap, H1, rfl, e1', e2', ht ▸ e3', e5', e6', c0.ext (fun a x ea nt => e1' a x ea nt) cs vcap, ?_, ?_⟩
      · rw [← ts.len, evL_len qs en rs e1 he]; exact hl
      · exact (call_ok F F1 st ts nw ts.len hx).cast S ht
  · -- the call
    obtain ⟨vs, ff, c', pm, ctv, vcap, H1, rfl, ext, dom, tb2, hff, hc', caps, hnp, hsp⟩ := q
    obtain ⟨_, ds, P, ro, ap, tb1, pm1⟩ := hsp
    have pm1 : Prm cb H1 P [] vs Q (WE W σ) (lamOut (C.fn f (ds ++ [loD l vcap]))) := pm1
    -- the cells
    obtain ⟨L, hL⟩ : ∃ L, L = (fr l).filterMap fun y => X.env.cells.lookup y := ⟨_, rfl⟩
    obtain ⟨Xh, hXh⟩ : ∃ Xh : Hp, Xh = fun b => match s2.heap.get? b with
      | some o => some (ExO b o)
      | none => none := ⟨_, rfl⟩
    have hX : ∀ b o, s2.heap.get? b = some o → Xh b = some (ExO b o) := fun b o e => by rw [hXh]; show (match s2.heap.get? b with | some o => some (ExO b o) | none => none) = _; rw [e]
    have inL : ∀ b, b ∈ L → ∃ y, y ∈ fr l ∧ X.env.cells.lookup y = some b := fun b hb => by
      rw [hL] at hb
      obtain ⟨y, hy, e⟩ := List.mem_filterMap.mp hb
      exact ⟨y, hy, e⟩
    have cellL : ∀ b, b ∈ L → ∃ o v, s2.heap.get? b = some o ∧ o.data = .cell v := fun b hb => by
      obtain ⟨y, _, e⟩ := inL b hb
      obtain ⟨v, o, h1, h2⟩ := I2.cell y b e
      exact ⟨o, v, h1, h2⟩
    have noneL : ∀ b, b ∈ L → H2 b = none := fun b hb => by
      obtain ⟨y, _, e⟩ := inL b hb
      exact I2.freeC y b e
    have youngL : ∀ b, b ∈ L → X.s_0.heap.objs.size ≤ b := fun b hb => by
      obtain ⟨y, _, e⟩ := inL b hb
      exact I2.ok.cab y b (T.fn y) e
    have hL2 : ∀ b, b ∈ L → H2 b = none ∧ ∃ o, s2.heap.get? b = some o ∧ Xh b = some (ExO b o) := fun b hb => by
      obtain ⟨o, v, h1, _⟩ := cellL b hb
      exact ⟨noneL b hb, o, h1, hX b o h1⟩
    have hbase : ∀ b, b ∈ L → X.base.get? b = none := fun b hb => Heap.get?_none_of_le (Nat.le_trans I2.ok.bsz (youngL b hb))
    have hfrs : ∀ b, b ∈ L → b ∉ frs X.stack := fun b hb z => by
      obtain ⟨y, _, e⟩ := inL b hb
      rcases List.mem_cons.mp (I2.stkSub b z) with q | q
      · exact I2.cne y b e q
      · obtain ⟨_, o, ho, _⟩ := I2.ok.funs.mem q
        exact absurd (Nat.lt_of_lt_of_le (Heap.lt_size ho) (youngL b hb)) (Nat.lt_irrefl _)
    have hfree2 : ∀ y ∈ scope.names, y.2 = .free → ∃ ci, X.env.cells.lookup y.1 = some ci := fun y hy e => I2.ok.has _ ((hfree y hy e).imp id id)
    have lk1 : ∀ y, y ∈ fr l → X.env.scope.names.lookup y = some .cell ∧ ∃ ci, X.env.cells.lookup y = some ci ∧ (cloFrom X.env.cells scope.names []).lookup y = some ci ∧ ci ∈ L := fun y hy => by
      have hk := hcell y hy
      obtain ⟨ci, hc⟩ := I2.ok.has y (.inl hk)
      refine ⟨hk, ci, hc, NdefX.clo_has hfree2 (M.fr1 l params body scope ok y hy) hc, ?_⟩
      rw [hL]; exact List.mem_filterMap.mpr ⟨y, hy, hc⟩
    have ext2 : ∀ a z, H2 a = some z → plus H2 Xh L a = some z := fun a z e => by
      rw [plus_out fun q => ?_]; exact e
      rw [noneL a q] at e; cases e
    have ext12 : ∀ a z, H1 a = some z → (∀ ps, z ≠ .tbl ps) → plus H2 Xh L a = some z := fun a z e nt => ext2 a z (ext a z e nt)
    have lamr : cb.lamR (plus H2 Xh L) l vcap (.ref ff) := by
      refine M.make l params body scope ok _ ff c' _ _ pm ctv vcap (ext2 _ _ hff) (ext2 _ _ hc') (caps_of I2 hX noneL (fr l) cs vcap hcs lk1 caps) (fun y ci e => ?_) (fun y z ci e1 e2 => I2.ok.inj y z ci (NdefX.clo_cm hfree2 e1) (NdefX.clo_cm hfree2 e2))
      rcases cloFrom_mem (PySem.mem_of_lookup e) with hm | ⟨h1, _⟩
      · cases hm
      · exact M.fr2 l params body scope ok _ h1 rfl
    have e0 := env0_plus (X := Xh) I2.env0 hL2 hbase hfrs
    have hPe := ROa0.empty ro
    have hPe2 : ∀ p, p ∈ P ++ [([], [])] → p.1 = [] := fun p hp => by
      rcases List.mem_append.mp hp with hp | hp
      · exact hPe p hp
      · rw [List.mem_singleton.mp hp]
    -- what the def answers
    cases hco : C.fn f (ds ++ [loD l vcap]) with
    | stuck => rw [hco] at pm1; exact pm1.elim
    | exc y ios => rw [hco] at pm1; exact pm1.elim
    | ret d kd ios =>
      rw [hco] at pm1
      have pm1 : Prm cb H1 P [] vs Q (WE W σ) (if lf d then .ret d 0 [] else .stuck) := pm1
      split at pm1
      · rename_i hld
        have hsp2 : spD cb np [] (C.fn f) (vs ++ [.ref ff]) (plus H2 Xh L) (fun v H' => (∀ a z, plus H2 Xh L a = some z → (∀ ps, z ≠ .tbl ps) → H' a = some z) ∧ (∀ a, plus H2 Xh L a ≠ none → H' a ≠ none) ∧ NdefX.TabsN cb.tb H' ∧ RO cb H' d 0 v [] []) (fun _ _ _ => False) := by
          refine ⟨by rw [List.length_append]; exact hnp, ds ++ [loD l vcap], P ++ [([], [])], ROa0.snoc (ROa0.ext ext12 ro) ?_, apart_empty hPe2, tabs_plus tb2 noneL, ?_⟩
          · rw [show loD l vcap = .dict [(.none, .int l), (.none, .tuple vcap)] from rfl, RO]
            exact ⟨lamr, rfl, rfl⟩
          · rw [hco]
            intro v o s9 PB H' b rt
            exact ⟨fun a z e nt => b.aft.keep a z e (pO_empty hPe2 a) nt, b.aft.dom, b.aft.tb, (RO.lf d kd 0 v o s9 hld rt.ro).2.2⟩
        have hlen : us.length = ps.length := by
          rw [← r.length]
          exact Fn.len _ _ _ _ hsp2
        have bind := hb s2 us I2.kIn (by rw [List.append_nil]; exact hlen)
        rw [List.append_nil] at bind
        show wpAny _ _ (call (.ref fa) us) _ _ _
        refine wpAny_call (codeAny_mono (Fn.run X.A X.stack s2 _ ⟨us, []⟩ us (vs ++ [.ref ff]) _ _ hr e0 bind r hsp2) fun rr s' hq => ?_)
        cases rr with
        | error e =>
          obtain ⟨_, _, _, _, _, _, _, _, _, _, _, _, z⟩ := hq
          exact z.elim
        | ok fl =>
          cases fl with
          | ret u =>
            refine I2.after (ce_plus hL2 hfrs hq fun v H' hok ⟨k1, k2, k3, k4⟩ => ⟨fun b hb => ?_, ?_⟩)
            · obtain ⟨_, o, h1, h2⟩ := hL2 b hb
              rw [h2]
              exact k1 b _ (by rw [plus_in hb]; exact h2) fun ps z => exO_tbl z
            · have kL : ∀ b, b ∈ L → ∃ o v, H' b = some (ExO b o) ∧ s'.heap.get? b = some o ∧ o.data = .cell v := fun b hb => by
                obtain ⟨o, v, h1, h2⟩ := cellL b hb
                have e := k1 b _ (by rw [plus_in hb]; exact hX b o h1) fun ps z => exO_tbl z
                exact ⟨o, v, e, exO_at hok e, h2⟩
              have rm : RO cb (minus H' L) d 0 v [] [] := RO.stabN d 0 v [] [] (nl_of_lf d hld) k4 fun a z ea q => by
                rw [minus_out fun y => ?_]; exact ea
                obtain ⟨o, _, e, _, _⟩ := kL a y
                rw [ea] at e
                rcases q with ⟨zs, rfl⟩ | ⟨o', u', rfl⟩ | q
                · exact exO_tup (Option.some.inj e).symm
                · exact exO_frz (Option.some.inj e).symm
                · cases q
              refine pm1 v [] [] [] (minus H' L) ⟨⟨fun a z e na nt => ?_, fun a e => ?_, tabs_minus k3 hok kL⟩, True.intro, apart_empty (fun p hp => by cases hp), fun a ha => absurd ha (pO_empty (fun p hp => by cases hp) a)⟩ ⟨rm, List.nodup_nil, (fun a ha => by cases ha), (fun a ha => by cases ha), (fun a ha => by cases ha), (fun a ha => by cases ha), (fun a ha => by cases ha)⟩
              · have h2 := ext a z e nt
                have ha : a ∉ L := fun y => by rw [noneL a y] at h2; cases h2
                rw [minus_out ha]
                exact k1 a z (ext2 a z h2) nt
              · have h2 := dom a e
                have ha : a ∉ L := fun y => h2 (noneL a y)
                rw [minus_out ha]
                exact k2 a (by rw [plus_out ha]; exact h2)
          | next => exact False.elim hq
          | brk => exact False.elim hq
          | cont => exact False.elim hq
      · exact pm1.elim
end
end QQ
namespace QQ
open PySem L2

/-- a def of the table, for calls -/
structure DK where
  x : Str
  np : Nat
  io : List Nat
  kb : List KB := []
structure MC where
  N : List Str
  sc : Scope
  blk : Option Scope := none
  ios : List Nat := []
  defs : List DK := []
  gls : List Str := []
  lamOk : Nat → Arguments → Expr → Scope → Bool := fun _ _ _ _ => false
  lamFr : Nat → List Str := fun _ => []
  lamD : Bool := false
def visC (sc : Scope) (x : Str) : Bool := match sc.names.lookup x with
  | some .local => true
  | some .cell => true
  | some .free => true
  | _ => false
def locC (sc : Scope) (x : Str) : Bool := match sc.names.lookup x with
  | some .local => true
  | some .cell => true
  | _ => false
def lclC (sc : Scope) (x : Str) : Bool := match sc.names.lookup x with
  | some .local => true
  | _ => false
def glC (sc : Scope) (x : Str) : Bool := match sc.names.lookup x with
  | some .globalImplicit => true
  | _ => false
def fnC (m : MC) (x : Str) : Bool := match m.blk with
  | none => true
  | some s => s.names.lookup x == some .cell
def nameC (m : MC) (i : Nat) (x : Str) : Bool := decide (m.N[i]? = some x) && visC m.sc x && !(x == ("__debug__" : Str)) && !(x == ("__classdict__" : Str))
/-- what stays: a tuple, a range -/
def isFx : QQ.IT → Bool
  | .seq _ => true
  | .rng _ => true
  | _ => false
mutual
def mP (m : MC) : Pat → Expr → Bool
  | .nm i, e => match e with
    | .Name x _ => decide (m.N[i]? = some x) && locC m.sc x && (fnC m x || lclC m.sc x) && !m.ios.contains i
    | _ => false
  | .tp ps, e => match e with
    | .Tuple es _ _ => mPs m ps es
    | _ => false
def mPs (m : MC) : List Pat → List Expr → Bool
  | [], es => es.isEmpty
  | p :: ps, es => match es with
    | [] => false
    | e :: es => noStar e && mP m p e && mPs m ps es
end
def mC : D → Expr → Bool
  | d, .Constant k _ _ => match d, k with
    | .int i, .int j => decide (i = j)
    | .bool i, .bool j => decide (i = j)
    | .none, .none => true
    | .str i, .str j => decide (i = j)
    | _, _ => false
  | _, _ => false
def mK (d : D) (e : Expr) : Bool := (constV d).isSome && mC d e
/-- within a comprehension's block -/
def MC.inB (m : MC) (scope : Scope) : MC := { m with sc := relS scope m.sc, blk := some scope }
def isTp : Pat → Bool
  | .tp _ => true
  | .nm _ => false
/-- not a set that is written there -/
def noSet : Expr → Bool
  | .Set _ _ _ => false
  | _ => true
def muC (mt : MU) (nm : Str) (args : List Expr) : Bool := match mt with
  | .append => decide (nm = "append") && args.length == 1
  | .pop => decide (nm = "pop") && args.length == 0
  | .popAt => decide (nm = "pop") && args.length == 1
  | .extend => decide (nm = "extend") && args.length == 1
  | .insert => false
/-- a call: the def's name, how many values by place, the keywords' names -/
def callC (m : MC) (x : Str) (f : Nat) (io : List Nat) (n : Nat) (ks : List Nat) (na : Nat) (kws : List Keyword) : Bool := glC m.sc x && (match m.defs[f]? with
  | some d => decide (x = d.x) && decide (io = d.io) && decide (n = d.np) && (if kws.isEmpty then ks.isEmpty else io.isEmpty && !ks.isEmpty && permOk ks d.np && kws.all (·.arg.isSome) && d.kb.contains ⟨na, kws.filterMap (·.arg), ks⟩)
  | none => false)
/-- a lambda made there -/
def lamC (m : MC) (l : Nat) (cs : List Nat) (params : Arguments) (body : Expr) (scope : Scope) : Bool := m.lamOk l params body scope && m.blk.isNone && m.lamD && decide (cs.map (fun j => m.N[j]?) = (m.lamFr l).map some) && (m.lamFr l).all (fun y => decide (m.sc.names.lookup y = some .cell)) &&
  scope.names.all fun y => !decide (y.2 = .free) || decide (m.sc.names.lookup y.1 = some .cell) || decide (m.sc.names.lookup y.1 = some .free)
def defC (m : MC) (x : Str) (f : Nat) (n : Nat) : Bool := glC m.sc x && (match m.defs[f]? with
  | some d => decide (x = d.x) && decide (d.io = []) && decide (n = d.np)
  | none => false)
mutual
def mE (m : MC) : E → Expr → Bool
  | .cst d, e => mC d e
  | .var i, e => match e with
    | .Name x _ => nameC m i x
    | _ => false
  | .mv i, e => match e with
    | .Name x _ => nameC m i x
    | _ => false
  | .bw i, e => match e with
    | .Name x _ => nameC m i x
    | _ => false
  | .bin o a b, e => match e with
    | .BinOp x op y _ => decide (op = opB o) && mE m a x && mE m b y
    | _ => false
  | .neg a, e => match e with
    | .UnaryOp .USub x _ => mE m a x
    | _ => false
  | .not_ a, e => match e with
    | .UnaryOp .Not x _ => mE m a x
    | _ => false
  | .cmp o a b, e => match e with
    | .Compare x [op] [y] _ => decide (op = opC o) && mE m a x && mE m b y && !behindInMarks (opC o) y
    | _ => false
  | .isc ng a d, e => match e with
    | .Compare x [op] [y] _ => decide (op = if ng then .IsNot else .Is) && mE m a x && mK d y && !behindInMarks (if ng then .IsNot else .Is) y
    | _ => false
  | .ch2 o p a b c, e => match e with
    | .Compare x [op, op2] [y, z] _ => decide (op = opC o) && decide (op2 = opC p) && mE m a x && mE m b y && mE m c z && !lastMarks [opC o, opC p] [y, z]
    | _ => false
  | .and_ a es, e => match e with
    | .BoolOp .And (x :: y :: zs) _ => mE m a x && mL m es (y :: zs)
    | _ => false
  | .or_ a es, e => match e with
    | .BoolOp .Or (x :: y :: zs) _ => mE m a x && mL m es (y :: zs)
    | _ => false
  | .ite c a b, e => match e with
    | .IfExp x y z _ => mE m c x && mE m a y && mE m b z
    | _ => false
  | .tup es, e => match e with
    | .Tuple xs _ _ => mL m es xs && decide (elLen es ≤ 1000)
    | _ => false
  | .lst _ es, e => match e with
    | .List xs _ => mL m es xs && decide (elLen es ≤ 1000)
    | _ => false
  | .ix a b, e => match e with
    | .Subscript x y _ => mE m a x && mE m b y && plainIx y
    | _ => false
  | .sl a lo hi, e => match e with
    | .Subscript x (.Slice l h none _) _ => mE m a x && mO m lo l && mO m hi h
    | _ => false
  | .rev a, e => match e with
    | .Subscript x (.Slice none none (some (.UnaryOp .USub (.Constant (.int 1) _ _) _)) _) _ => mE m a x
    | _ => false
  | .call f io es ks, e => match e with
    | .Call (.Name x _) args kws _ => callC m x f io (elLen es) ks args.length kws && mLK m es args kws
    | _ => false
  | .bi b es, e => match b with
    | .isi t => match es, e with
      | .cons q .nil, .Call (.Name x _) [a, .Name y _] [] _ => decide (x = "isinstance") && decide (y = Str.ofString t) && decide (t ∈ ["int", "bool", "str", "list", "tuple", "dict"]) && glC m.sc x && glC m.sc y && mE m q a && noStar a
      | _, _ => false
    | _ => match e with
      | .Call (.Name x _) (a :: as) [] _ => !isIsi b && decide (x = biN b) && glC m.sc x && mL m es (a :: as)
      | _ => false
  | .rngl tp es, e => match e with
    | .Call (.Name y _) [.Call (.Name x _) as [] _] [] _ => decide (x = "range") && decide (y = if tp then "tuple" else "list") && glC m.sc x && glC m.sc y && mL m es as && (as.length == 1 || as.length == 2)
    | _ => false
  | .mt .index a es, e => match es, e with
    | .cons q .nil, .Call (.Attribute x nm ap) [b] [] cp => decide (nm = "index") && (ap.endLine == cp.line) && plainBase x && noStar b && mE m a x && mE m q b
    | _, _ => false
  | .mu mt i es, e => match e with
    | .Call (.Attribute (.Name x _) nm ap) args [] cp => nameC m i x && (ap.endLine == cp.line) && mL m es args && muC mt nm args
    | _ => false
  | .lc k own g it ifs elt, e => match e with
    | .ListComp x [⟨tg, iter, cs, 0⟩] scope _ => mI m it iter && mP (m.inB scope) g tg && blkC m.N m.sc scope (own.filterMap fun i => m.N[i]?.map fun x => (x, i)) && decide ((own.filterMap fun i => m.N[i]?.map fun x => (x, i)).map (·.2) = own) &&
        (ptL g).all (fun i => own.contains i) && own.all (fun i => !m.ios.contains i) && (!isPair it || isTp g) && noSet iter && mL (m.inB scope) ifs cs && decide (elLen ifs ≤ 1) && mE (m.inB scope) elt x
    | _ => false
  | .lc2 k own g it ifs own1 g1 it1 ifs1 elt, e => match e with
    | .ListComp x [⟨tg, iter, cs, 0⟩, ⟨tg1, iter1, cs1, 0⟩] scope _ => mI m it iter && mP (m.inB scope) g tg && blkC m.N m.sc scope (own.filterMap fun i => m.N[i]?.map fun x => (x, i)) && decide ((own.filterMap fun i => m.N[i]?.map fun x => (x, i)).map (·.2) = own) &&
        (ptL g).all (fun i => own.contains i) && own.all (fun i => !m.ios.contains i) && (!isPair it || isTp g) && noSet iter && mL (m.inB scope) ifs cs && decide (elLen ifs ≤ 1) &&
        (isFx it1 && mI (m.inB scope) it1 iter1 && mP (m.inB scope) g1 tg1 && own1.all (fun i => own.contains i) && (ptL g1).all (fun i => own1.contains i) && noSet iter1 && mL (m.inB scope) ifs1 cs1 && decide (elLen ifs1 ≤ 1)) && mE (m.inB scope) elt x
    | _ => false
  | .gl g, e => match e with
    | .Name x _ => decide (m.gls[g]? = some x) && glC m.sc x && !(x == ("__debug__" : Str))
    | _ => false
  | .fnv f, e => match e with
    | .Name x _ => glC m.sc x && !(x == ("__debug__" : Str)) && (match m.defs[f]? with
      | some d => decide (x = d.x)
      | none => false)
    | _ => false
  | .calv i es, e => match e with
    | .Call (.Name x _) (a :: as) [] _ => nameC m i x && mL m es (a :: as)
    | _ => false
  | .callL f es l cs, e => match e with
    | .Call (.Name x _) (a :: as) [] _ => defC m x f (elLen es + 1) && mSn m l cs es (a :: as)
    | _ => false
  | .dic0, e => match e with
    | .Dict ks vs _ => ks.isEmpty && vs.isEmpty
    | _ => false
  | .stk, _ => true
  | _, _ => false
def mL (m : MC) : EL → List Expr → Bool
  | .nil, xs => xs.isEmpty
  | .cons q qs, xs => match xs with
    | [] => false
    | x :: xs => noStar x && mE m q x && mL m qs xs
def mLK (m : MC) : EL → List Expr → List Keyword → Bool
  | .nil, xs, kws => xs.isEmpty && kws.isEmpty
  | .cons q qs, xs, kws => match xs with
    | x :: xs => noStar x && mE m q x && mLK m qs xs kws
    | [] => match kws with
      | [] => false
      | k :: kws => mE m q k.value && mLK m qs [] kws
def mSn (m : MC) (l : Nat) (cs : List Nat) : EL → List Expr → Bool
  | .nil, xs => match xs with
    | [.Lambda params body scope _] => lamC m l cs params body scope
    | _ => false
  | .cons q qs, xs => match xs with
    | x :: xs => noStar x && mE m q x && mSn m l cs qs xs
    | [] => false
def mO (m : MC) : OE → Option Expr → Bool
  | .none, x => x.isNone
  | .some q, x => match x with
    | some e => mE m q e
    | none => false
def mI (m : MC) : QQ.IT → Expr → Bool
  | .seq q, e => mE m q e
  | .rng es, e => match e with
    | .Call (.Name x _) as [] _ => decide (x = "range") && glC m.sc x && mL m es as && (as.length == 1 || as.length == 2)
    | _ => false
  | .enum q, e => match e with
    | .Call (.Name x _) [a] [] _ => decide (x = "enumerate") && glC m.sc x && mE m q a && noStar a
    | _ => false
  | .zip qa qb, e => match e with
    | .Call (.Name x _) [a, b] [] _ => decide (x = "zip") && glC m.sc x && mE m qa a && mE m qb b && noStar a && noStar b
    | _ => false
end
/-! ### what the checker leans on -/
def bltins : List Str := ["len", "int", "abs", "max", "min", "sum", "any", "all", "tuple", "list", "sorted", "divmod", "str", "isinstance", "bool", "dict", "range", "enumerate", "zip"]
/-- a constant's value -/
def constD : D → Option V
  | .int i => some (.int i)
  | .bool b => some (.bl b)
  | .none => some .non
  | .str x => some (.str x)
  | _ => none
theorem constD_ro {c : Cb} {d : D} {v : V} (h : constD d = some v) (H : Hp) : RO c H d 0 v [] [] := by
  unfold constD at h
  split at h <;> first | (cases h; rw [RO]; exact ⟨rfl, rfl, rfl⟩) | cases h
structure Ctx (X : Cx) (c cb : Cb) (W : WX) (C : Orc) (m : MC) : Prop where
  G : Gd X c W
  S : c.Same cb
  tb : cb.tb = c.tb
  hN : X.N = m.N
  sc : X.env.scope = m.sc
  fn : ∀ x, fnC m x = true → X.fn x = true
  bl : ∀ x, x ∈ bltins → X.mg x = none
  df : ∀ (f : Nat) d, m.defs[f]? = some d → DefOk X cb d.x d.np d.io d.kb (C.fn f)
  gl : ∀ (g : Nat) x, m.gls[g]? = some x → ∃ d v u, C.gl g = some d ∧ constD d = some v ∧ X.mg x = some u ∧ L2.RelV v u
  io : ∀ i, m.ios.contains i = false → ∀ p ∈ c.iov, p.1 ≠ i
  fv : FvOk X cb C
  fa : ∀ (f : Nat) d, m.defs[f]? = some d → X.mg d.x = some (.ref (cb.fa f))
  lm : LmOk X cb m.lamOk m.lamFr
  tab : m.lamD = true → m.blk = none → TabOk X cb
section
variable {X : Cx} {c cb : Cb} {W : WX} {C : Orc} {m : MC}
theorem Ctx.inB (K : Ctx X c cb W C m) (scope : Scope) (s : Shared) (H : Hp) (Ca : Addr) (cl : List (Str × Addr)) (fp : List Addr) : Ctx (X.blk s H scope (compEnvC scope cl Ca X.env) fp) c cb Wf C (m.inB scope) where
  G := ⟨K.G.hK, K.G.hu, K.G.hc, K.G.hN, takes0⟩
  S := K.S
  tb := K.tb
  hN := K.hN
  sc := by
    show relS scope X.env.scope = relS scope m.sc
    rw [K.sc]
  fn := fun x h => h
  bl := K.bl
  df := fun f d h => ⟨(K.df f d h).ex⟩
  gl := K.gl
  io := K.io
  fv := ⟨K.fv.lam, fun f co h => let ⟨np, kb, x, D, h2, h3⟩ := K.fv.fn f co h; ⟨np, kb, x, ⟨D.ex⟩, h2, h3⟩⟩
  fa := K.fa
  lm := ⟨K.lm.make, K.lm.df, K.lm.fr1, K.lm.fr2⟩
  tab := fun _ h => nomatch h
theorem vis_of {sc : Scope} {x : Str} (h : visC sc x = true) : Vis sc x := by
  unfold visC at h
  split at h
  · exact .inl (by assumption)
  · exact .inr (.inl (by assumption))
  · exact .inr (.inr (by assumption))
  · cases h
theorem loc_of {sc : Scope} {x : Str} (h : locC sc x = true) : Loc sc x := by
  unfold locC at h
  split at h
  · exact .inl (by assumption)
  · exact .inr (by assumption)
  · cases h
theorem lcl_of {sc : Scope} {x : Str} (h : lclC sc x = true) : sc.names.lookup x = some .local := by
  unfold lclC at h
  split at h
  · assumption
  · cases h
theorem gl_of (K : Ctx X c cb W C m) {x : Str} (h : glC m.sc x = true) : Gl X x := by
  unfold glC at h
  show X.env.scope.names.lookup x = some .globalImplicit
  rw [K.sc]
  split at h
  · assumption
  · cases h
theorem name_of (K : Ctx X c cb W C m) {i : Nat} {x : Str} {pos : Pos} (h : nameC m i x = true) : PE X (.Name x pos) (tVar i) := by
  unfold nameC at h
  simp only [Bool.and_eq_true, decide_eq_true_eq, Bool.not_eq_true'] at h
  obtain ⟨⟨⟨h1, h2⟩, h3⟩, h4⟩ := h
  exact pe_var (by rw [K.hN]; exact h1) (by rw [K.sc]; exact vis_of h2) h3 h4
end
section
variable {X : Cx} {c cb : Cb} {W : WX} {C : Orc} {m : MC}
theorem const_of {d : D} {e : Expr} (h : mC d e = true) : ∃ v, constD d = some v ∧ PE X e (tC v) := by
  unfold mC at h
  split at h
  · split at h
    · rw [of_decide_eq_true h]; exact ⟨_, rfl, pe_int⟩
    · rw [of_decide_eq_true h]; exact ⟨_, rfl, pe_bl⟩
    · exact ⟨_, rfl, pe_non⟩
    · rw [of_decide_eq_true h]; exact ⟨_, rfl, pe_str⟩
    · cases h
  · cases h
theorem constK_of {d : D} {e : Expr} (h : mK d e = true) : ∃ k, constV d = some k ∧ PE X e (tC k) := by
  unfold mK at h
  rw [Bool.and_eq_true] at h
  obtain ⟨v, hv, he⟩ := const_of (X := X) h.2
  cases d with
  | none => cases hv; exact ⟨_, rfl, he⟩
  | bool b => cases hv; exact ⟨_, rfl, he⟩
  | _ => cases h.1
/-- a built-in but isinstance, by its name -/
def mBi (m : MC) (b : BI) (es : EL) (e : Expr) : Bool := match e with
  | .Call (.Name x _) (a :: as) [] _ => !isIsi b && decide (x = biN b) && glC m.sc x && mL m es (a :: as)
  | _ => false
end
end QQ
namespace QQ
open PySem L2

section
variable {c cb : Cb} {C : Orc}
theorem evB_bool {W : WX} {C : Orc} {q : E} {en : En} : evB C q en = (ev C q en).bind fun x e1 => match x.1 with
  | .bool b => .ok b e1
  | _ => .stuck := rfl
/-- a value as a test -/
theorem pt_of {X : Cx} {W : WX} {e : Expr} {q : E} (h : PEq X c W C e q) (he : ∀ whole, isTrue e X.env whole = (do let v ← whole; standAt e.pos; holding [v] (truthy v))) : PTq X c W C e q := by
  refine (pt_val h he).imp fun σ H Q hr => ?_
  obtain ⟨en, fo, fs, F, hr⟩ := hr
  refine tE_seq F hr fun x e1 hx v H1 fo1 fs1 o s F1 st tx nx => ?_
  split at hx
  · rename_i b hb
    exact ⟨b, tx.blV hb, hx H1 fo1 fs1 F1 st⟩
  · exact hx.elim
/-- forms that a test takes as any value -/
def plainT : Expr → Bool
  | .UnaryOp .Not _ _ => false
  | .BoolOp _ _ _ => false
  | .IfExp _ _ _ _ => false
  | .Compare _ _ _ _ => false
  | _ => true
theorem plainT_of {e : Expr} (h : plainT e = true) (env : Env) (whole : Sem Value) : isTrue e env whole = (do let v ← whole; standAt e.pos; holding [v] (truthy v)) := by
  cases e with
  | UnaryOp op a p => cases op <;> first | rfl | cases h
  | BoolOp _ _ _ => cases h
  | IfExp _ _ _ _ => cases h
  | Compare _ _ _ _ => cases h
  | _ => rfl
/-- a test asks the value -/
theorem test_value {W : WX} {q : E} {σ : L2.St} {H : Hp} {Q : Bool → Hp → Prop} (h : tTs c W (muE q) (evB C q) σ H Q) : tE c W (muE q) (ev C q) σ H fun x H' => ∃ k, x = .bl k ∧ Q k H' := by
  obtain ⟨en, fo, fs, F, hr⟩ := h
  refine tE_seq F hr fun x e1 hx v H1 fo1 fs1 o s F1 st tx nx => ?_
  split at hx
  · rename_i b hb
    exact ⟨b, tx.blV hb, hx H1 fo1 fs1 F1 st⟩
  · exact hx.elim
section
variable {X : Cx} {W : WX}
theorem test_cmp (G : Gd X c W) {a b : Expr} {qa qb : E} {pos : Pos} (o : CP) (ha : PEq X c W C a qa) (hb : PEq X c W C b qb) (hm : behindInMarks (opC o) b = false) : PTq X c W C (.Compare a [opC o] [b] pos) (.cmp o qa qb) :=
  (pt_cmpR (op_cmp G.hK G.hu o) ha hb hm).imp fun σ H Q h => cmp_read o (test_value h)
theorem test_is (G : Gd X c W) {a b : Expr} {qa : E} {pos : Pos} (ng : Bool) {d : D} {k : V} (hk : constV d = some k) (ha : PEq X c W C a qa) (hb : PE X b (tC k)) (hm : behindInMarks (if ng then .IsNot else .Is) b = false) : PTq X c W C (.Compare a [if ng then .IsNot else .Is] [b] pos) (.isc ng qa d) :=
  (pt_cmpR (op_is ng) ha hb hm).imp fun σ H Q h => is_read ng hk (test_value h)
theorem test_ch2 (G : Gd X c W) {a b d : Expr} {qa qb qd : E} {pos : Pos} (o p : CP) (ha : PEq X c W C a qa) (hb : PEq X c W C b qb) (hd : PEq X c W C d qd) (hm : lastMarks [opC o, opC p] [b, d] = false) :
    PTq X c W C (.Compare a [opC o, opC p] [b, d] pos) (.ch2 o p qa qb qd) :=
  (pt_chain (op_cmp G.hK G.hu o) (op_cmp G.hK G.hu p) ha hb hd hm).imp fun σ H Q h => ch2_read o p (test_value h)
theorem test_not (G : Gd X c W) {a : Expr} {qa : E} {pos : Pos} (ha : PTq X c W C a qa) : PTq X c W C (.UnaryOp .Not a pos) (.not_ qa) := by
  refine (pt_not ha).imp fun σ H Q h => ?_
  obtain ⟨en, fo, fs, F, hr⟩ := h
  have hr : Res c W σ (KT c σ (muE qa) en H fo fs Q) (((ev C qa en).bind fun x e1 => match x.1 with
      | .bool b => .ok ((.bool (!b), .own 0) : D × Kd) e1
      | _ => .stuck).bind fun x e1 => match x.1 with
      | .bool b => .ok b e1
      | _ => .stuck) := hr
  refine ⟨en, fo, fs, F, ?_⟩
  show Res c W σ _ ((ev C qa en).bind fun x e1 => match x.1 with
      | .bool b => .ok b e1
      | _ => .stuck)
  cases hq : ev C qa en with
  | stuck => rw [hq] at hr; exact hr
  | exc x e1 => rw [hq] at hr; exact hr
  | ok x e1 =>
    rw [hq, Out.bind_ok] at hr
    rw [Out.bind_ok]
    obtain ⟨d, k⟩ := x
    cases d with
    | bool b => exact hr
    | _ => exact hr.elim
/-- the rest of an and, of an or, as a test -/
def tail (o : Out (D × Kd)) : Out Bool := o.bind fun x e1 => match x.1 with
  | .bool b => .ok b e1
  | _ => .stuck
theorem test_and1 {a : Expr} {qa : E} {pos : Pos} (ha : PTq X c W C a qa) : PW X (.BoolOp .And [a] pos) (tTs c W (muL (.cons qa .nil)) fun en => tail (evAnd C (.cons qa .nil) en)) := by
  have h2 : PT X a (tTs c W (muL (.cons qa .nil)) fun en => tail (evAnd C (.cons qa .nil) en)) := ha.imp fun σ H Q h => by
    obtain ⟨en, fo, fs, F, hr⟩ := h
    refine ⟨en, fo, fs, F, ?_⟩
    have hr : Res c W σ (KT c σ (muE qa ++ []) en H fo fs Q) (((ev C qa en).bind fun x e1 => match x.1 with
      | .bool b => .ok ((.bool b, .own 0) : D × Kd) e1
      | _ => .stuck).bind fun x e1 => match x.1 with
      | .bool b => .ok b e1
      | _ => .stuck) := hr
    show Res c W σ _ ((ev C qa en).bind fun x e1 => match x.1 with
      | .bool b => .ok b e1
      | _ => .stuck)
    cases hq : ev C qa en with
    | stuck => rw [hq] at hr; exact hr
    | exc x e1 => rw [hq] at hr; exact hr
    | ok x e1 =>
      rw [hq, Out.bind_ok] at hr
      rw [Out.bind_ok]
      obtain ⟨d, k⟩ := x
      cases d with
      | bool b => exact fun H' fo' fs' F' st => hr H' fo' fs' F' (st.mono inL)
      | _ => exact hr.elim
  exact pw_and1 h2
theorem test_or1 {a : Expr} {qa : E} {pos : Pos} (ha : PTq X c W C a qa) : PW X (.BoolOp .Or [a] pos) (tTs c W (muL (.cons qa .nil)) fun en => tail (evOr C (.cons qa .nil) en)) := by
  have h2 : PT X a (tTs c W (muL (.cons qa .nil)) fun en => tail (evOr C (.cons qa .nil) en)) := ha.imp fun σ H Q h => by
    obtain ⟨en, fo, fs, F, hr⟩ := h
    refine ⟨en, fo, fs, F, ?_⟩
    have hr : Res c W σ (KT c σ (muE qa ++ []) en H fo fs Q) (((ev C qa en).bind fun x e1 => match x.1 with
      | .bool b => .ok ((.bool b, .own 0) : D × Kd) e1
      | _ => .stuck).bind fun x e1 => match x.1 with
      | .bool b => .ok b e1
      | _ => .stuck) := hr
    show Res c W σ _ ((ev C qa en).bind fun x e1 => match x.1 with
      | .bool b => .ok b e1
      | _ => .stuck)
    cases hq : ev C qa en with
    | stuck => rw [hq] at hr; exact hr
    | exc x e1 => rw [hq] at hr; exact hr
    | ok x e1 =>
      rw [hq, Out.bind_ok] at hr
      rw [Out.bind_ok]
      obtain ⟨d, k⟩ := x
      cases d with
      | bool b => exact fun H' fo' fs' F' st => hr H' fo' fs' F' (st.mono inL)
      | _ => exact hr.elim
  exact pw_or1 h2
theorem test_andN {a b : Expr} {es : List Expr} {qa : E} {ma : List Nat} {dn : En → Out (D × Kd)} {pos : Pos} (ha : PTq X c W C a qa) (hb : PW X (.BoolOp .And (b :: es) pos) (tTs c W ma fun en => tail (dn en))) :
    PW X (.BoolOp .And (a :: b :: es) pos) (tTs c W (muE qa ++ ma) fun en => tail ((ev C qa en).bind fun x e1 => match x.1 with
      | .bool true => dn e1
      | .bool false => .ok (.bool false, .own 0) e1
      | _ => .stuck)) := by
  refine (pw_and ha hb).imp fun σ H Q h => ?_
  obtain ⟨en, fo, fs, F, hr⟩ := h
  have hr : Res c W σ (KT c σ (muE qa ++ ma) en H fo fs Q) ((evB C qa en).bind fun b e1 => if b then tail (dn e1) else .ok false e1) := by
    have hr : Res c W σ (KT c σ (muE qa ++ ma) en H fo fs Q) (((ev C qa en).bind fun x e1 => match x.1 with
      | .bool true => dn e1
      | .bool false => .ok (.bool false, .own 0) e1
      | _ => .stuck).bind fun x e1 => match x.1 with
      | .bool b => .ok b e1
      | _ => .stuck) := hr
    show Res c W σ _ (((ev C qa en).bind fun x e1 => match x.1 with
      | .bool b => .ok b e1
      | _ => .stuck).bind fun b e1 => if b then tail (dn e1) else .ok false e1)
    cases hq : ev C qa en with
    | stuck => rw [hq] at hr; exact hr
    | exc x e1 => rw [hq] at hr; exact hr
    | ok x e1 =>
      rw [hq, Out.bind_ok] at hr
      rw [Out.bind_ok]
      obtain ⟨d, k⟩ := x
      cases d with
      | bool b => cases b <;> exact hr
      | _ => exact hr.elim
  refine tT_seq F hr fun b e1 hx H1 fo1 fs1 F1 st => ?_
  cases b with
  | true => rw [if_pos rfl] at hx ⊢; exact tT_after F1 hx st inL inR
  | false => rw [if_neg Bool.false_ne_true] at hx ⊢; exact hx H1 fo1 fs1 F1 (st.mono inL)
theorem test_orN {a b : Expr} {es : List Expr} {qa : E} {ma : List Nat} {dn : En → Out (D × Kd)} {pos : Pos} (ha : PTq X c W C a qa) (hb : PW X (.BoolOp .Or (b :: es) pos) (tTs c W ma fun en => tail (dn en))) :
    PW X (.BoolOp .Or (a :: b :: es) pos) (tTs c W (muE qa ++ ma) fun en => tail ((ev C qa en).bind fun x e1 => match x.1 with
      | .bool true => .ok (.bool true, .own 0) e1
      | .bool false => dn e1
      | _ => .stuck)) := by
  refine (pw_or ha hb).imp fun σ H Q h => ?_
  obtain ⟨en, fo, fs, F, hr⟩ := h
  have hr : Res c W σ (KT c σ (muE qa ++ ma) en H fo fs Q) ((evB C qa en).bind fun b e1 => if b then .ok true e1 else tail (dn e1)) := by
    have hr : Res c W σ (KT c σ (muE qa ++ ma) en H fo fs Q) (((ev C qa en).bind fun x e1 => match x.1 with
      | .bool true => .ok (.bool true, .own 0) e1
      | .bool false => dn e1
      | _ => .stuck).bind fun x e1 => match x.1 with
      | .bool b => .ok b e1
      | _ => .stuck) := hr
    show Res c W σ _ (((ev C qa en).bind fun x e1 => match x.1 with
      | .bool b => .ok b e1
      | _ => .stuck).bind fun b e1 => if b then .ok true e1 else tail (dn e1))
    cases hq : ev C qa en with
    | stuck => rw [hq] at hr; exact hr
    | exc x e1 => rw [hq] at hr; exact hr
    | ok x e1 =>
      rw [hq, Out.bind_ok] at hr
      rw [Out.bind_ok]
      obtain ⟨d, k⟩ := x
      cases d with
      | bool b => cases b <;> exact hr
      | _ => exact hr.elim
  refine tT_seq F hr fun b e1 hx H1 fo1 fs1 F1 st => ?_
  cases b with
  | true => rw [if_pos rfl] at hx ⊢; exact hx H1 fo1 fs1 F1 (st.mono inL)
  | false => rw [if_neg Bool.false_ne_true] at hx ⊢; exact tT_after F1 hx st inL inR
end
end
end QQ
namespace QQ
open PySem L2

def special : E → Bool
  | .not_ _ => true
  | .cmp _ _ _ => true
  | .isc _ _ _ => true
  | .ch2 _ _ _ _ _ => true
  | .and_ _ _ => true
  | .or_ _ _ => true
  | .ite _ _ _ => true
  | .stk => true
  | _ => false
theorem plain_mE {m : MC} {q : E} {e : Expr} (h : mE m q e = true) (hs : special q = false) : plainT e = true := by
  have no : ∀ {p : Prop}, (false = true) → p := fun h => nomatch h
  cases e with
  | UnaryOp op a p =>
    cases op with
    | Not =>
      cases q with
      | bi b es => cases b <;> first | exact no h | (cases es with | nil => exact no h | cons q r => cases r <;> exact no h)
      | mt mt a es => cases mt <;> first | exact no h | (cases es with | nil => exact no h | cons q r => cases r <;> exact no h)
      | cst d => cases d <;> exact no h
      | _ => first | exact no h | cases hs
    | _ => rfl
  | BoolOp op es p =>
    cases q with
    | bi b es => cases b <;> first | exact no h | (cases es with | nil => exact no h | cons q r => cases r <;> exact no h)
    | mt mt a es => cases mt <;> first | exact no h | (cases es with | nil => exact no h | cons q r => cases r <;> exact no h)
    | cst d => cases d <;> exact no h
    | _ => first | exact no h | cases hs
  | IfExp a b d p =>
    cases q with
    | bi b es => cases b <;> first | exact no h | (cases es with | nil => exact no h | cons q r => cases r <;> exact no h)
    | mt mt a es => cases mt <;> first | exact no h | (cases es with | nil => exact no h | cons q r => cases r <;> exact no h)
    | cst d => cases d <;> exact no h
    | _ => first | exact no h | cases hs
  | Compare a os es p =>
    cases q with
    | bi b es => cases b <;> first | exact no h | (cases es with | nil => exact no h | cons q r => cases r <;> exact no h)
    | mt mt a es => cases mt <;> first | exact no h | (cases es with | nil => exact no h | cons q r => cases r <;> exact no h)
    | cst d => cases d <;> exact no h
    | _ => first | exact no h | cases hs
  | _ => rfl
theorem and3 {a b c : Bool} (h : (a && b && c) = true) : a = true ∧ b = true ∧ c = true := by
  simp only [Bool.and_eq_true] at h; exact ⟨h.1.1, h.1.2, h.2⟩
theorem and2 {a b : Bool} (h : (a && b) = true) : a = true ∧ b = true := by
  simpa only [Bool.and_eq_true] using h
/-! ### targets -/
theorem asgE_cons {e : Expr} (h : noStar e = true) (es : List Expr) (env : Env) : assignEach (e :: es) env = (false, assign e env) :: assignEach es env := by
  cases e <;> first | rfl | cases h
section
variable {c cb : Cb} {C : Orc} {X : Cx} {W : WX} {m : MC}
mutual
theorem sP (K : Ctx X c cb W C m) : ∀ (p : Pat) (e : Expr), mP m p e = true → PG X e (gPt X.K p) ∧ noStar e = true
  | .nm i, e, h => by
    cases e with
    | Name x pos =>
      have h : (decide (m.N[i]? = some x) && locC m.sc x && (fnC m x || lclC m.sc x) && !m.ios.contains i) = true := h
      simp only [Bool.and_eq_true, Bool.or_eq_true, decide_eq_true_eq] at h
      obtain ⟨⟨⟨h1, h2⟩, h3⟩, h4⟩ := h
      refine ⟨pg_name K.G.hN (by rw [K.hN]; exact h1) (by rw [K.sc]; exact loc_of h2) ?_, rfl⟩
      exact h3.imp (K.fn x) fun h => by rw [K.sc]; exact lcl_of h
    | _ => cases h
  | .tp ps, e, h => by
    cases e with
    | Tuple es k pos =>
      obtain ⟨h1, h2, h3⟩ := sPs K ps es h
      exact ⟨pg_tup K.G.hc h1 h2 h3, rfl⟩
    | _ => cases h
theorem sPs (K : Ctx X c cb W C m) : ∀ (ps : List Pat) (es : List Expr), mPs m ps es = true → PGs X es (gPts X.K ps) ∧ (assignEach es X.env).length = ps.length ∧ (assignEach es X.env).findIdx? (·.1) = none
  | [], es, h => by
    cases es with
    | nil => exact ⟨pgs_nil, rfl, rfl⟩
    | cons e es => cases h
  | p :: ps, es, h => by
    cases es with
    | nil => cases h
    | cons e es =>
      obtain ⟨h1, h2, h3⟩ := and3 (show (noStar e && mP m p e && mPs m ps es) = true from h)
      obtain ⟨g1, g2, g3⟩ := sPs K ps es h3
      have hc := asgE_cons h1 es X.env
      refine ⟨pgs_cons (sP K p e h2).1 g1 (by rw [hc]; rfl), by rw [hc]; show _ + 1 = _ + 1; rw [g2], ?_⟩
      rw [hc, List.findIdx?_cons, if_neg (by exact Bool.false_ne_true), g3]; rfl
end
end
mutual
theorem mP_ios {m : MC} : ∀ (p : Pat) (e : Expr), mP m p e = true → ∀ i, i ∈ ptL p → m.ios.contains i = false
  | .nm j, e, h, i, hi => by
    cases e with
    | Name x pos =>
      have h : (decide (m.N[j]? = some x) && locC m.sc x && (fnC m x || lclC m.sc x) && !m.ios.contains j) = true := h
      obtain ⟨_, h⟩ := and2 h
      have e : i = j := by
        have hi : i ∈ [j] := hi
        simpa using hi
      rw [e]; simpa using h
    | _ => cases h
  | .tp ps, e, h, i, hi => by
    cases e with
    | Tuple es k pos => exact mPs_ios ps es h i hi
    | _ => cases h
theorem mPs_ios {m : MC} : ∀ (ps : List Pat) (es : List Expr), mPs m ps es = true → ∀ i, i ∈ ptLs ps → m.ios.contains i = false
  | [], es, h, i, hi => by cases hi
  | p :: ps, es, h, i, hi => by
    cases es with
    | nil => cases h
    | cons e es =>
      obtain ⟨h1, h2, h3⟩ := and3 (show (noStar e && mP m p e && mPs m ps es) = true from h)
      have hi : i ∈ ptL p ++ ptLs ps := hi
      exact (List.mem_append.mp hi).elim (mP_ios p e h2 i) (mPs_ios ps es h3 i)
end
def isTupX : Expr → Bool
  | .Tuple _ _ _ => true
  | _ => false
theorem isTupX_of {e : Expr} (h : isTupX e = true) : ∃ ts k p, e = .Tuple ts k p := by
  cases e with
  | Tuple ts k p => exact ⟨ts, k, p, rfl⟩
  | _ => cases h
theorem tp_tup {m : MC} {ps : List Pat} {e : Expr} (h : mP m (.tp ps) e = true) : isTupX e = true := by
  cases e <;> first | rfl | cases h
theorem pr_tup {m : MC} {g : Pat} {tg : Expr} {qi : QQ.IT} (hp : isPair qi = false ∨ ∃ ps, g = .tp ps) (h : mP m g tg = true) : isPair qi = true → isTupX tg = true := fun hq => by
  rcases hp with hp | ⟨ps, rfl⟩
  · rw [hq] at hp; cases hp
  · exact tp_tup h
theorem fset_of {e : Expr} (h : noSet e = true) (env : Env) (x : Value) : foldedSetIterable e env x = pure x := by
  cases e <;> first | rfl | cases h
/-- what the checker asks of a comprehension -/
structure LcC (m : MC) (k : Nat) (own : List Nat) (g : Pat) (it : QQ.IT) (ifs : EL) (elt : E) (x tg iter : Expr) (cs : List Expr) (scope : Scope) : Prop where
  hit : mI m it iter = true
  htg : mP (m.inB scope) g tg = true
  blk : blkC m.N m.sc scope (own.filterMap fun i => m.N[i]?.map fun x => (x, i)) = true
  oeq : (own.filterMap fun i => m.N[i]?.map fun x => (x, i)).map (·.2) = own
  pt : ∀ i, i ∈ ptL g → i ∈ own
  io : ∀ i, i ∈ own → m.ios.contains i = false
  pr : isPair it = false ∨ ∃ ps, g = .tp ps
  set : noSet iter = true
  hifs : mL (m.inB scope) ifs cs = true
  len : elLen ifs ≤ 1
  helt : mE (m.inB scope) elt x = true
theorem lcC_of {m : MC} {k : Nat} {own : List Nat} {g : Pat} {it : QQ.IT} {ifs : EL} {elt : E} {x tg iter : Expr} {cs : List Expr} {scope : Scope} {pos : Pos}
    (h : mE m (.lc k own g it ifs elt) (.ListComp x [⟨tg, iter, cs, 0⟩] scope pos) = true) : LcC m k own g it ifs elt x tg iter cs scope := by
  have h : (mI m it iter && mP (m.inB scope) g tg && blkC m.N m.sc scope (own.filterMap fun i => m.N[i]?.map fun x => (x, i)) && decide ((own.filterMap fun i => m.N[i]?.map fun x => (x, i)).map (·.2) = own) &&
        (ptL g).all (fun i => own.contains i) && own.all (fun i => !m.ios.contains i) && (!isPair it || isTp g) && noSet iter && mL (m.inB scope) ifs cs && decide (elLen ifs ≤ 1) && mE (m.inB scope) elt x) = true := h
  simp only [Bool.and_eq_true, decide_eq_true_eq] at h
  obtain ⟨⟨⟨⟨⟨⟨⟨⟨⟨⟨h1, h2⟩, h3⟩, h4⟩, h5⟩, h6⟩, h7⟩, h8⟩, h9⟩, h10⟩, h11⟩ := h
  refine ⟨h1, h2, h3, h4, fun i hi => ?_, fun i hi => ?_, ?_, h8, h9, h10, h11⟩
  · simpa using List.all_eq_true.mp h5 i hi
  · simpa using List.all_eq_true.mp h6 i hi
  · rw [Bool.or_eq_true] at h7
    refine h7.imp (fun h => by simpa using h) fun h => ?_
    cases g with
    | nm i => cases h
    | tp ps => exact ⟨ps, rfl⟩
theorem lc2C_of {m : MC} {k : Nat} {own : List Nat} {g : Pat} {it : QQ.IT} {ifs : EL} {own1 : List Nat} {g1 : Pat} {it1 : QQ.IT} {ifs1 : EL} {elt : E} {x tg iter tg1 iter1 : Expr} {cs cs1 : List Expr} {scope : Scope} {pos : Pos}
    (h : mE m (.lc2 k own g it ifs own1 g1 it1 ifs1 elt) (.ListComp x [⟨tg, iter, cs, 0⟩, ⟨tg1, iter1, cs1, 0⟩] scope pos) = true) : LcC m k own g it ifs elt x tg iter cs scope ∧ isFx it1 = true ∧ mI (m.inB scope) it1 iter1 = true ∧ mP (m.inB scope) g1 tg1 = true ∧ (∀ i, i ∈ own1 → i ∈ own) ∧ (∀ i, i ∈ ptL g1 → i ∈ own1) ∧ noSet iter1 = true ∧ mL (m.inB scope) ifs1 cs1 = true ∧ elLen ifs1 ≤ 1 := by
  have h : (mI m it iter && mP (m.inB scope) g tg && blkC m.N m.sc scope (own.filterMap fun i => m.N[i]?.map fun x => (x, i)) && decide ((own.filterMap fun i => m.N[i]?.map fun x => (x, i)).map (·.2) = own) &&
        (ptL g).all (fun i => own.contains i) && own.all (fun i => !m.ios.contains i) && (!isPair it || isTp g) && noSet iter && mL (m.inB scope) ifs cs && decide (elLen ifs ≤ 1) &&
        (isFx it1 && mI (m.inB scope) it1 iter1 && mP (m.inB scope) g1 tg1 && own1.all (fun i => own.contains i) && (ptL g1).all (fun i => own1.contains i) && noSet iter1 && mL (m.inB scope) ifs1 cs1 && decide (elLen ifs1 ≤ 1)) && mE (m.inB scope) elt x) = true := h
  simp only [Bool.and_eq_true, decide_eq_true_eq] at h
  obtain ⟨⟨⟨⟨⟨⟨⟨⟨⟨⟨⟨h1, h2⟩, h3⟩, h4⟩, h5⟩, h6⟩, h7⟩, h8⟩, h9⟩, h10⟩, ⟨⟨⟨⟨⟨⟨⟨k1, k2⟩, k3⟩, k4⟩, k5⟩, k6⟩, k7⟩, k8⟩⟩, h11⟩ := h
  refine ⟨⟨h1, h2, h3, h4, fun i hi => ?_, fun i hi => ?_, ?_, h8, h9, h10, h11⟩, k1, k2, k3, fun i hi => ?_, fun i hi => ?_, k6, k7, k8⟩
  · simpa using List.all_eq_true.mp h5 i hi
  · simpa using List.all_eq_true.mp h6 i hi
  · rw [Bool.or_eq_true] at h7
    refine h7.imp (fun h => by simpa using h) fun h => ?_
    cases g with
    | nm i => cases h
    | tp ps => exact ⟨ps, rfl⟩
  · simpa using List.all_eq_true.mp k4 i hi
  · simpa using List.all_eq_true.mp k5 i hi
section
variable {c cb : Cb} {C : Orc}
theorem test_ite {X : Cx} {W : WX} (G : Gd X c W) {t a b : Expr} {qt qa qb : E} {pos : Pos} (ht : PTq X c W C t qt) (ha : PTq X c W C a qa) (hb : PTq X c W C b qb) : PTq X c W C (.IfExp t a b pos) (.ite qt qa qb) := by
  refine ⟨fun pins s σ H Q I h => ?_⟩
  obtain ⟨en, fo, fs, F, hr⟩ := h
  have hr : Res c W σ (KT c σ ((muE qt ++ muE qa) ++ muE qb) en H fo fs Q) (((ev C qt en).bind fun x e1 => match x.1 with
      | .bool true => ev C qa e1
      | .bool false => ev C qb e1
      | _ => .stuck).bind fun x e1 => match x.1 with
      | .bool b => .ok b e1
      | _ => .stuck) := hr
  have hr' : Res c W σ (KT c σ ((muE qt ++ muE qa) ++ muE qb) en H fo fs Q) ((evB C qt en).bind fun b e1 => if b = true then evB C qa e1 else evB C qb e1) := by
    show Res c W σ _ (((ev C qt en).bind fun x e1 => match x.1 with
      | .bool b => .ok b e1
      | _ => .stuck).bind fun b e1 => if b = true then evB C qa e1 else evB C qb e1)
    cases hq : ev C qt en with
    | stuck => rw [hq] at hr; exact hr
    | exc x e1 => rw [hq] at hr; exact hr
    | ok x e1 =>
      rw [hq, Out.bind_ok] at hr
      rw [Out.bind_ok]
      obtain ⟨d, k⟩ := x
      cases d with
      | bool b => cases b <;> exact hr
      | _ => exact hr.elim
  show wpAny _ X.A (do
    if ← isTrue t X.env (eval t X.env) then isTrue a X.env (eval a X.env) else isTrue b X.env (eval b X.env)) _ _ s
  have key := tT_seq (Q := fun v H1 => if v = true then tTs c W (muE qa) (evB C qa) σ H1 Q else tTs c W (muE qb) (evB C qb) σ H1 Q) F hr' fun v e1 hx H1 fo1 fs1 F1 st => by
    cases v with
    | true => rw [if_pos rfl] at hx ⊢; exact tT_after F1 hx st (fun i h => inL i (inL i h)) fun i h => inL i (inR i h)
    | false => rw [if_neg Bool.false_ne_true] at hx ⊢; exact tT_after F1 hx st (fun i h => inL i (inL i h)) inR
  refine wpAny_bind (thn (ht.run pins s σ H _ I key) fun v s1 ⟨H1, I1, q1⟩ => ?_)
  cases v with
  | true => exact ha.run pins s1 σ H1 Q I1 q1
  | false => exact hb.run pins s1 σ H1 Q I1 q1
theorem both {X : Cx} {W : WX} {m : MC} {q : E} {e : Expr} (h : mE m q e = true) (hs : special q = false) (he : PEq X c W C e q) : PEq X c W C e q ∧ PTq X c W C e q :=
  ⟨he, pt_of he (plainT_of (plain_mE h hs) X.env)⟩
theorem isLong {α : Type} {xs : List α} (h : (xs.length == 1 || xs.length == 2) = true) : xs.length = 1 ∨ xs.length = 2 := by
  rw [Bool.or_eq_true] at h
  exact h.imp (fun h => by simpa using h) fun h => by simpa using h
theorem constV_of {d : D} {v : V} {k : V} (h : constD d = some v) (hk : constV d = some k) : v = k := by
  cases d <;> first | (cases h; cases hk; rfl) | cases hk
theorem sem_stkT {X : Cx} {W : WX} {e : Expr} : PTq X c W C e .stk := ⟨fun pins s σ H Q I h => by
  obtain ⟨en, fo, fs, F, hq⟩ := h
  exact (show False from hq).elim⟩
theorem s_call {X : Cx} {W : WX} {m : MC} (K : Ctx X c cb W C m) {x : Str} {f : Nat} {io ks : List Nat} {es : EL} {args : List Expr} {kws : List Keyword} {p pos : Pos} (h : callC m x f io (elLen es) ks args.length kws = true)
    (a : PAK X args kws (tAr c W (muL es) (evL C es)) ∧ noStars args = true ∧ (kws = [] → PAq X c W C args es) ∧ args.length + kws.length = elLen es) : PEq X c W C (.Call (.Name x p) args kws pos) (.call f io es ks) := by
  unfold callC at h
  obtain ⟨hg, h⟩ := and2 h
  obtain ⟨a1, a2, a3, a4⟩ := a
  cases hd : m.defs[f]? with
  | none => rw [hd] at h; cases h
  | some d =>
    rw [hd] at h
    obtain ⟨h, h4⟩ := and2 h
    obtain ⟨g1, g2, g3⟩ := and3 h
    have g1 := of_decide_eq_true g1
    have g2 := of_decide_eq_true g2
    have g3 := of_decide_eq_true g3
    have D := K.df f d hd
    subst g1 g2
    cases kws with
    | nil =>
      have hk : ks = [] := by simpa using h4
      subst hk
      have a3 := a3 rfl
      cases args with
      | nil =>
        cases es with
        | nil =>
          have g3 : 0 = d.np := g3
          rw [← g3] at D
          exact sem_call0 K.G K.S K.tb D (gl_of K hg)
        | cons q qs => exact absurd (show 0 + 0 = elLen qs + 1 from a4) (by omega)
      | cons x0 xs => exact sem_call K.G K.S K.tb D (gl_of K hg) a3 a2 g3
    | cons k kws =>
      have h4 : (d.io.isEmpty && !ks.isEmpty && permOk ks d.np && (k :: kws).all (·.arg.isSome) && d.kb.contains ⟨args.length, (k :: kws).filterMap (·.arg), ks⟩) = true := h4
      obtain ⟨h4, k4, k5⟩ := and3 h4
      obtain ⟨k1, k2, k3⟩ := and3 h4
      have k1 : d.io = [] := by simpa using k1
      have D : DefOk X cb d.x d.np [] d.kb (C.fn f) := by rw [← k1]; exact D
      rw [k1]
      exact sem_callK K.G K.S K.tb D (gl_of K hg) a1 a2 k4 g3 k3 (by simpa using k2) (by simpa using k5)
theorem lamC_of {X : Cx} {W : WX} {m : MC} (K : Ctx X c cb W C m) {l : Nat} {cs : List Nat} {params : Arguments} {body : Expr} {scope : Scope} (h : lamC m l cs params body scope = true) : m.lamOk l params body scope = true ∧ TabOk X cb ∧ True ∧ cs.map (fun j => X.N[j]?) = (m.lamFr l).map some ∧ (∀ y, y ∈ m.lamFr l → X.env.scope.names.lookup y = some .cell) ∧
    ∀ y ∈ scope.names, y.2 = .free → X.env.scope.names.lookup y.1 = some .cell ∨ X.env.scope.names.lookup y.1 = some .free := by
  unfold lamC at h
  simp only [Bool.and_eq_true, Bool.or_eq_true, Bool.not_eq_true', decide_eq_true_eq, decide_eq_false_iff_not, List.all_eq_true] at h
  obtain ⟨⟨⟨⟨⟨h1, h2⟩, h3⟩, h4⟩, h5⟩, h6⟩ := h
  refine ⟨h1, K.tab h3 (by cases hb : m.blk with | none => rfl | some s => rw [hb] at h2; cases h2), True.intro, by rw [K.hN]; exact h4, fun y hy => by rw [K.sc]; exact h5 y hy, fun y hy e => ?_⟩
  rw [K.sc]
  rcases h6 y hy with (z | z) | z
  · exact absurd e z
  · exact .inl z
  · exact .inr z
theorem s_callL {X : Cx} {W : WX} {m : MC} (K : Ctx X c cb W C m) {x : Str} {f l : Nat} {es : EL} {cs : List Nat} {a : Expr} {as : List Expr} {p pos : Pos} {params : Arguments} {body : Expr} {scope : Scope} (h : defC m x f (elLen es + 1) = true) (hc : lamC m l cs params body scope = true)
    (hpa : L2.PA X (a :: as) (tSn X c W C params body scope es)) (hns : noStars (a :: as) = true) : PEq X c W C (.Call (.Name x p) (a :: as) [] pos) (.callL f es l cs) := by
  unfold defC at h
  obtain ⟨hg, h⟩ := and2 h
  cases hd : m.defs[f]? with
  | none => rw [hd] at h; cases h
  | some d =>
    rw [hd] at h
    obtain ⟨g1, g2, g3⟩ := and3 h
    have g1 := of_decide_eq_true g1
    have g2 := of_decide_eq_true g2
    have g3 := of_decide_eq_true g3
    have D := K.df f d hd
    subst g1
    rw [g2] at D
    obtain ⟨h1, h2, _, h4, h5, h6⟩ := lamC_of K hc
    exact sem_callL K.G K.S K.tb K.lm h2 D (gl_of K hg) h1 hpa hns g3 h4 h5 h6
mutual
theorem sE : ∀ (q : E) {X : Cx} {W : WX} {m : MC} (K : Ctx X c cb W C m) (e : Expr), mE m q e = true → PEq X c W C e q ∧ PTq X c W C e q
  | .cst d, X, W, m, K, e, h => by
    obtain ⟨v, hv, he⟩ := const_of (X := X) h
    exact both h rfl (sem_const K.G he (constD_ro hv))
  | .var i, X, W, m, K, e, h => by
    refine both h rfl ?_
    cases e with
    | Name x p => exact sem_var K.G (name_of K h)
    | _ => cases h
  | .mv i, X, W, m, K, e, h => by
    refine both h rfl ?_
    cases e with
    | Name x p => exact sem_mv K.G (name_of K h)
    | _ => cases h
  | .bw i, X, W, m, K, e, h => by
    refine both h rfl ?_
    cases e with
    | Name x p => exact sem_bw K.G (name_of K h)
    | _ => cases h
  | .gl g, X, W, m, K, e, h => by
    refine both h rfl ?_
    cases e with
    | Name x p =>
      obtain ⟨h1, h2, h3⟩ := and3 (show (decide (m.gls[g]? = some x) && glC m.sc x && !(x == ("__debug__" : Str))) = true from h)
      obtain ⟨d, v, u, g1, g2, g3, g4⟩ := K.gl g x (of_decide_eq_true h1)
      exact sem_gl K.G (gl_of K h2) g3 g4 (by simpa using h3) g1 (constD_ro g2)
    | _ => cases h
  | .fnv g, X, W, m, K, e, h => by
    refine both h rfl ?_
    cases e with
    | Name x p =>
      have h : (glC m.sc x && !(x == ("__debug__" : Str)) && (match m.defs[g]? with
        | some d => decide (x = d.x)
        | none => false)) = true := h
      obtain ⟨h1, h2, h3⟩ := and3 h
      cases hd : m.defs[g]? with
      | none => rw [hd] at h3; cases h3
      | some d =>
        rw [hd] at h3
        have h3 := of_decide_eq_true h3
        subst h3
        exact sem_fnv K.G K.S (gl_of K h1) (K.fa g d hd) (by simpa using h2)
    | _ => cases h
  | .bin o a b, X, W, m, K, e, h => by
    refine both h rfl ?_
    cases e with
    | BinOp x op y p =>
      obtain ⟨h1, h2, h3⟩ := and3 h
      rw [of_decide_eq_true h1]
      exact sem_bin K.G o (sE a K x h2).1 (sE b K y h3).1
    | _ => cases h
  | .neg a, X, W, m, K, e, h => by
    cases e with
    | UnaryOp op x p =>
      cases op with
      | USub => exact both h rfl (sem_neg K.G (sE a K x h).1)
      | _ => cases h
    | _ => cases h
  | .not_ a, X, W, m, K, e, h => by
    cases e with
    | UnaryOp op x p =>
      cases op with
      | Not => exact ⟨sem_not K.G (sE a K x h).1, test_not K.G (sE a K x h).2⟩
      | _ => cases h
    | _ => cases h
  | .cmp o a b, X, W, m, K, e, h => by
    cases e with
    | Compare x ops ys p =>
      match ops, ys, h with
      | [op], [y], h =>
        have h : (decide (op = opC o) && mE m a x && mE m b y && !behindInMarks (opC o) y) = true := h
        obtain ⟨h1, h4⟩ := and2 h
        obtain ⟨h1, h2, h3⟩ := and3 h1
        rw [of_decide_eq_true h1]
        exact ⟨sem_cmp K.G o (sE a K x h2).1 (sE b K y h3).1 (by simpa using h4), test_cmp K.G o (sE a K x h2).1 (sE b K y h3).1 (by simpa using h4)⟩
    | _ => cases h
  | .isc ng a d, X, W, m, K, e, h => by
    cases e with
    | Compare x ops ys p =>
      match ops, ys, h with
      | [op], [y], h =>
        have h : (decide (op = if ng then .IsNot else .Is) && mE m a x && mK d y && !behindInMarks (if ng then .IsNot else .Is) y) = true := h
        obtain ⟨h1, h4⟩ := and2 h
        obtain ⟨h1, h2, h3⟩ := and3 h1
        obtain ⟨k, hk, hp⟩ := constK_of (X := X) h3
        rw [of_decide_eq_true h1]
        exact ⟨sem_is K.G ng hk (sE a K x h2).1 hp (by simpa using h4), test_is K.G ng hk (sE a K x h2).1 hp (by simpa using h4)⟩
    | _ => cases h
  | .ch2 o p a b d, X, W, m, K, e, h => by
    cases e with
    | Compare x ops ys pos =>
      match ops, ys, h with
      | [op, op2], [y, z], h =>
        have h : (decide (op = opC o) && decide (op2 = opC p) && mE m a x && mE m b y && mE m d z && !lastMarks [opC o, opC p] [y, z]) = true := h
        obtain ⟨h1, h6⟩ := and2 h
        obtain ⟨h1, h4, h5⟩ := and3 h1
        obtain ⟨h1, h2, h3⟩ := and3 h1
        rw [of_decide_eq_true h1, of_decide_eq_true h2]
        exact ⟨sem_ch2 K.G o p (sE a K x h3).1 (sE b K y h4).1 (sE d K z h5).1 (by simpa using h6), test_ch2 K.G o p (sE a K x h3).1 (sE b K y h4).1 (sE d K z h5).1 (by simpa using h6)⟩
    | _ => cases h
  | .ch3 o p q a b d f, X, W, m, K, e, h => by cases e <;> cases h
  | .and_ a es, X, W, m, K, e, h => by
    cases e with
    | BoolOp op xs pos =>
      match op, xs, h with
      | .And, x :: y :: zs, h =>
        obtain ⟨h1, h2⟩ := and2 (show (mE m a x && mL m es (y :: zs)) = true from h)
        have r := sAnd es K y zs h2 pos
        have r1 := sE a K x h1
        exact ⟨sem_andN K.G r1.1 r.1, ⟨fun pins s σ H Q I hw => (test_andN r1.2 r.2).run _ pins s σ H Q I hw⟩⟩
    | _ => cases h
  | .or_ a es, X, W, m, K, e, h => by
    cases e with
    | BoolOp op xs pos =>
      match op, xs, h with
      | .Or, x :: y :: zs, h =>
        obtain ⟨h1, h2⟩ := and2 (show (mE m a x && mL m es (y :: zs)) = true from h)
        have r := sOr es K y zs h2 pos
        have r1 := sE a K x h1
        exact ⟨sem_orN K.G r1.1 r.1, ⟨fun pins s σ H Q I hw => (test_orN r1.2 r.2).run _ pins s σ H Q I hw⟩⟩
    | _ => cases h
  | .ite t a b, X, W, m, K, e, h => by
    cases e with
    | IfExp x y z p =>
      obtain ⟨h1, h2, h3⟩ := and3 (show (mE m t x && mE m a y && mE m b z) = true from h)
      exact ⟨sem_ite K.G (sE t K x h1).2 (sE a K y h2).1 (sE b K z h3).1, test_ite K.G (sE t K x h1).2 (sE a K y h2).2 (sE b K z h3).2⟩
    | _ => cases h
  | .tup es, X, W, m, K, e, h => by
    refine both h rfl ?_
    cases e with
    | Tuple xs k p =>
      obtain ⟨h1, h2⟩ := and2 (show (mL m es xs && decide (elLen es ≤ 1000)) = true from h)
      exact sem_tup K.G (sL es K xs h1).1 (Nat.le_trans (of_decide_eq_true h2) (by decide))
    | _ => cases h
  | .lst k es, X, W, m, K, e, h => by
    refine both h rfl ?_
    cases e with
    | List xs p =>
      obtain ⟨h1, h2⟩ := and2 (show (mL m es xs && decide (elLen es ≤ 1000)) = true from h)
      exact sem_lst K.G (sL es K xs h1).1 (Nat.le_trans (of_decide_eq_true h2) (by decide))
    | _ => cases h
  | .dic0, X, W, m, K, e, h => by
    refine both h rfl ?_
    cases e with
    | Dict ks vs p =>
      obtain ⟨h1, h2⟩ := and2 (show (ks.isEmpty && vs.isEmpty) = true from h)
      have h1 : ks = [] := by simpa using h1
      have h2 : vs = [] := by simpa using h2
      subst h1 h2
      exact sem_dic0 K.G
    | _ => cases h
  | .ix a b, X, W, m, K, e, h => by
    refine both h rfl ?_
    cases e with
    | Subscript x y p =>
      obtain ⟨h1, h2, h3⟩ := and3 (show (mE m a x && mE m b y && plainIx y) = true from h)
      exact sem_ix K.G (sE a K x h1).1 (sE b K y h2).1 (ix_of h3)
    | _ => cases h
  | .sl a lo hi, X, W, m, K, e, h => by
    refine both h rfl ?_
    cases e with
    | Subscript x y p =>
      cases y with
      | Slice l hh st p2 =>
        cases st with
        | none =>
          obtain ⟨h1, h2, h3⟩ := and3 (show (mE m a x && mO m lo l && mO m hi hh) = true from h)
          exact sem_sl K.G (sE a K x h1).1 (sO lo K l h2) (sO hi K hh h3)
        | some z => cases h
      | _ => cases h
    | _ => cases h
  | .rev a, X, W, m, K, e, h => by
    refine both h rfl ?_
    match e, h with
    | .Subscript x (.Slice none none (some (.UnaryOp .USub (.Constant (.int 1) _ _) _)) _) _, h => exact sem_rev K.G (sE a K x h).1
  | .call f io es ks, X, W, m, K, e, h => by
    refine both h rfl ?_
    match e, h with
    | .Call (.Name x _) args kws _, h =>
      obtain ⟨h1, h2⟩ := and2 (show (callC m x f io (elLen es) ks args.length kws && mLK m es args kws) = true from h)
      exact s_call K h1 (sLK es K args kws h2)
  | .calv i es, X, W, m, K, e, h => by
    refine both h rfl ?_
    match e, h with
    | .Call (.Name x _) (a :: as) [] _, h =>
      obtain ⟨h1, h2⟩ := and2 (show (nameC m i x && mL m es (a :: as)) = true from h)
      obtain ⟨a1, a2, _⟩ := sL es K (a :: as) h2
      exact sem_calv K.G K.S K.tb K.fv (name_of K h1) a1 a2
  | .bi b es, X, W, m, K, e, h => by
    refine both h rfl ?_
    cases hb : isIsi b with
    | true =>
      cases b with
      | isi t =>
        match es, e, h with
        | .cons q .nil, .Call (.Name x _) [a, .Name y _] [] _, h =>
          have h : (decide (x = "isinstance") && decide (y = Str.ofString t) && decide (t ∈ ["int", "bool", "str", "list", "tuple", "dict"]) && glC m.sc x && glC m.sc y && mE m q a && noStar a) = true := h
          obtain ⟨h1, h6, h7⟩ := and3 h
          obtain ⟨h1, h4, h5⟩ := and3 h1
          obtain ⟨h1, h2, h3⟩ := and3 h1
          have h1 := of_decide_eq_true h1
          have h2 := of_decide_eq_true h2
          have h3 := of_decide_eq_true h3
          subst h1 h2
          refine sem_isi K.G h3 (gl_of K h4) (K.bl _ (by decide)) (gl_of K h5) (K.bl _ ?_) (sE q K a h6).1 h7
          simp only [List.mem_cons, List.mem_nil_iff, or_false] at h3
          rcases h3 with rfl | rfl | rfl | rfl | rfl | rfl <;> decide
      | _ => cases hb
    | false =>
      have h2 : mBi m b es e = true := by
        cases b <;> first | exact h | cases hb
      match e, h2 with
      | .Call (.Name x _) (a :: as) [] _, h =>
        have h : (!isIsi b && decide (x = biN b) && glC m.sc x && mL m es (a :: as)) = true := h
        obtain ⟨h1, h2⟩ := and2 h
        obtain ⟨h0, h1, h3⟩ := and3 h1
        have h1 := of_decide_eq_true h1
        subst h1
        obtain ⟨a1, a2, a3⟩ := sL es K (a :: as) h2
        exact sem_bi K.G hb (gl_of K h3) (K.bl _ (by cases b <;> first | (show _ ∈ bltins; decide) | cases hb)) a1 a2
  | .rngl tp es, X, W, m, K, e, h => by
    refine both h rfl ?_
    match e, h with
    | .Call (.Name y _) [.Call (.Name x _) as [] _] [] _, h =>
      have h : (decide (x = "range") && decide (y = if tp then "tuple" else "list") && glC m.sc x && glC m.sc y && mL m es as && (as.length == 1 || as.length == 2)) = true := h
      obtain ⟨h1, h5, h6⟩ := and3 h
      obtain ⟨h1, h3, h4⟩ := and3 h1
      obtain ⟨h1, h2⟩ := and2 h1
      have h1 := of_decide_eq_true h1
      have h2 := of_decide_eq_true h2
      subst h1 h2
      obtain ⟨a1, a2, a3⟩ := sL es K as h5
      cases tp with
      | true => exact sem_rngl (tp := true) K.G (gl_of K h4) (K.bl _ (by decide)) (gl_of K h3) (K.bl _ (by decide)) a1 a2 (isLong h6)
      | false => exact sem_rngl (tp := false) K.G (gl_of K h4) (K.bl _ (by decide)) (gl_of K h3) (K.bl _ (by decide)) a1 a2 (isLong h6)
  | .mt mm a es, X, W, m, K, e, h => by
    refine both h rfl ?_
    match mm, es, e, h with
    | .index, .cons q .nil, .Call (.Attribute x nm ap) [b] [] cp, h =>
      have h : (decide (nm = "index") && (ap.endLine == cp.line) && plainBase x && noStar b && mE m a x && mE m q b) = true := h
      obtain ⟨h1, h5, h6⟩ := and3 h
      obtain ⟨h1, h3, h4⟩ := and3 h1
      obtain ⟨h1, h2⟩ := and2 h1
      have h1 := of_decide_eq_true h1
      subst h1
      exact sem_index K.G (sE a K x h5).1 (sem_cons K.G (sE q K b h6).1 (sem_nil K.G) (star_cons h4 _ _)) h3 h4 h2
  | .mu mm i es, X, W, m, K, e, h => by
    refine both h rfl ?_
    match e, h with
    | .Call (.Attribute (.Name x p) nm ap) args [] cp, h =>
      have h : (nameC m i x && (ap.endLine == cp.line) && mL m es args && muC mm nm args) = true := h
      obtain ⟨h1, h4⟩ := and2 h
      obtain ⟨h1, h2, h3⟩ := and3 h1
      have vn := name_of (pos := p) K h1
      cases mm with
      | append =>
        obtain ⟨g1, g2⟩ := and2 (show (decide (nm = "append") && args.length == 1) = true from h4)
        have g1 := of_decide_eq_true g1
        subst g1
        match args, g2 with
        | [a], _ =>
          cases es with
          | nil => cases h3
          | cons q qs =>
            obtain ⟨k1, k2, k3⟩ := and3 (show (noStar a && mE m q a && mL m qs []) = true from h3)
            cases qs with
            | nil => exact sem_append K.G vn (sem_cons K.G (sE q K a k2).1 (sem_nil K.G) (star_cons k1 _ _)) k1 h2
            | cons _ _ => cases k3
      | pop =>
        obtain ⟨g1, g2⟩ := and2 (show (decide (nm = "pop") && args.length == 0) = true from h4)
        have g1 := of_decide_eq_true g1
        subst g1
        match args, g2 with
        | [], _ =>
          cases es with
          | nil => exact sem_pop K.G vn h2
          | cons q qs => cases h3
      | popAt =>
        obtain ⟨g1, g2⟩ := and2 (show (decide (nm = "pop") && args.length == 1) = true from h4)
        have g1 := of_decide_eq_true g1
        subst g1
        match args, g2 with
        | [a], _ =>
          cases es with
          | nil => cases h3
          | cons q qs =>
            obtain ⟨k1, k2, k3⟩ := and3 (show (noStar a && mE m q a && mL m qs []) = true from h3)
            cases qs with
            | nil => exact sem_popAt K.G vn (sem_cons K.G (sE q K a k2).1 (sem_nil K.G) (star_cons k1 _ _)) k1 h2
            | cons _ _ => cases k3
      | extend =>
        obtain ⟨g1, g2⟩ := and2 (show (decide (nm = "extend") && args.length == 1) = true from h4)
        have g1 := of_decide_eq_true g1
        subst g1
        match args, g2 with
        | [a], _ =>
          cases es with
          | nil => cases h3
          | cons q qs =>
            obtain ⟨k1, k2, k3⟩ := and3 (show (noStar a && mE m q a && mL m qs []) = true from h3)
            cases qs with
            | nil => exact sem_extend K.G vn (sem_cons K.G (sE q K a k2).1 (sem_nil K.G) (star_cons k1 _ _)) k1 h2
            | cons _ _ => cases k3
      | insert => cases h4
  | .lc k own g it ifs elt, X, W, m, K, e, h => by
    refine both h rfl ?_
    match e, h with
    | .ListComp x [⟨tg, iter, cs, 0⟩] scope pos, h =>
      have h := lcC_of h
      have F := sI it K iter h.hit
      have z := (sem_lc (k := k) (pos := pos) K.G (F tg (pr_tup h.pr h.htg)) (blkOk_by (by rw [K.hN, K.sc]; exact h.blk)) (fun s H Ca cl fp => (sP (K.inB scope s H Ca cl fp) g tg h.htg).1) (fun s H Ca cl fp => sTs ifs (K.inB scope s H Ca cl fp) cs h.hifs h.len)
        (fun s H Ca cl fp => (sE elt (K.inB scope s H Ca cl fp) x h.helt).1) (fset_of h.set X.env) (by rw [h.oeq]; exact h.pt) (by rw [h.oeq]; exact fun i hi => K.io i (h.io i hi)) h.pr)
      rw [h.oeq] at z
      exact z
  | .lc2 k own g it ifs own1 g1 it1 ifs1 elt, X, W, m, K, e, h => by
    refine both h rfl ?_
    match e, h with
    | .ListComp x [⟨tg, iter, cs, 0⟩, ⟨tg1, iter1, cs1, 0⟩] scope pos, h =>
      obtain ⟨h, k1, k2, k3, k4, k5, k6, k7, k8⟩ := lc2C_of h
      have F := sI it K iter h.hit
      have z := (sem_lc2 (k := k) (pos := pos) K.G (F tg (pr_tup h.pr h.htg)) (blkOk_by (by rw [K.hN, K.sc]; exact h.blk)) (vs1 := own1) (by rw [h.oeq]; exact k4) (fun s H Ca cl fp => (sP (K.inB scope s H Ca cl fp) g tg h.htg).1) (fun s H Ca cl fp => sTs ifs (K.inB scope s H Ca cl fp) cs h.hifs h.len)
        (fun s H Ca cl fp => sF it1 (K.inB scope s H Ca cl fp) iter1 k1 k2 tg1) (fun s H Ca cl fp => (sP (K.inB scope s H Ca cl fp) g1 tg1 k3).1) (fun s H Ca cl fp => sTs ifs1 (K.inB scope s H Ca cl fp) cs1 k7 k8)
        (fun s H Ca cl fp => (sE elt (K.inB scope s H Ca cl fp) x h.helt).1) (fset_of h.set X.env) (fun env x => fset_of k6 env x) (by rw [h.oeq]; exact h.pt) k5 (by rw [h.oeq]; exact fun i hi => K.io i (h.io i hi)) h.pr)
      rw [h.oeq] at z
      exact z
  | .lam l cs, X, W, m, K, e, h => by cases e <;> cases h
  | .callL f es l cs, X, W, m, K, e, h => by
    refine both h rfl ?_
    match e, h with
    | .Call (.Name x _) (a :: as) [] _, h =>
      obtain ⟨h1, h2⟩ := and2 (show (defC m x f (elLen es + 1) && mSn m l cs es (a :: as)) = true from h)
      obtain ⟨params, body, scope, hc, hpa, hns⟩ := sSn es K l cs (a :: as) h2
      exact s_callL K h1 hc hpa hns
  | .stk, X, W, m, K, e, h => ⟨sem_stk, sem_stkT⟩
theorem sL : ∀ (qs : EL) {X : Cx} {W : WX} {m : MC} (K : Ctx X c cb W C m) (es : List Expr), mL m qs es = true → PAq X c W C es qs ∧ noStars es = true ∧ es.length = elLen qs
  | .nil, X, W, m, K, es, h => by
    cases es with
    | nil => exact ⟨sem_nil K.G, rfl, rfl⟩
    | cons e es => cases h
  | .cons q qs, X, W, m, K, es, h => by
    cases es with
    | nil => cases h
    | cons e es =>
      obtain ⟨h1, h2, h3⟩ := and3 (show (noStar e && mE m q e && mL m qs es) = true from h)
      obtain ⟨a1, a2, a3⟩ := sL qs K es h3
      refine ⟨sem_cons K.G (sE q K e h2).1 a1 (star_cons h1 _ _), ?_, ?_⟩
      · show (noStar e && noStars es) = true; rw [h1, a2]; rfl
      · show es.length + 1 = elLen qs + 1; rw [a3]
theorem sLK : ∀ (qs : EL) {X : Cx} {W : WX} {m : MC} (K : Ctx X c cb W C m) (es : List Expr) (kws : List Keyword), mLK m qs es kws = true → PAK X es kws (tAr c W (muL qs) (evL C qs)) ∧ noStars es = true ∧ (kws = [] → PAq X c W C es qs) ∧ es.length + kws.length = elLen qs
  | .nil, X, W, m, K, es, kws, h => by
    obtain ⟨h1, h2⟩ := and2 (show (es.isEmpty && kws.isEmpty) = true from h)
    have h1 : es = [] := by simpa using h1
    have h2 : kws = [] := by simpa using h2
    subst h1 h2
    exact ⟨(pak_nil pkl_nil).imp fun σ H Q h => nil_read h, rfl, fun _ => sem_nil K.G, rfl⟩
  | .cons q qs, X, W, m, K, es, kws, h => by
    cases es with
    | cons e es =>
      obtain ⟨h1, h2, h3⟩ := and3 (show (noStar e && mE m q e && mLK m qs es kws) = true from h)
      obtain ⟨a1, a2, a3, a4⟩ := sLK qs K es kws h3
      refine ⟨(pak_cons (sE q K e h2).1 a1 (star_cons h1 _ _)).imp fun σ H Q h => cons_read h, ?_, fun z => sem_cons K.G (sE q K e h2).1 (a3 z) (star_cons h1 _ _), ?_⟩
      · show (noStar e && noStars es) = true; rw [h1, a2]; rfl
      · show es.length + 1 + kws.length = elLen qs + 1; omega
    | nil =>
      cases kws with
      | nil => cases h
      | cons k kws =>
        obtain ⟨nm, e, p⟩ := k
        obtain ⟨h2, h3⟩ := and2 (show (mE m q e && mLK m qs [] kws) = true from h)
        obtain ⟨a1, a2, a3, a4⟩ := sLK qs K [] kws h3
        refine ⟨(pak_nil (pkl_cons (sE q K e h2).1 (a1.run0 rfl))).imp fun σ H Q h => cons_read h, rfl, (fun z => nomatch z), ?_⟩
        show 0 + (kws.length + 1) = elLen qs + 1
        have a4 : 0 + kws.length = elLen qs := a4
        omega
theorem sSn : ∀ (qs : EL) {X : Cx} {W : WX} {m : MC} (K : Ctx X c cb W C m) (l : Nat) (cs : List Nat) (es : List Expr), mSn m l cs qs es = true → ∃ params body scope, lamC m l cs params body scope = true ∧ L2.PA X es (tSn X c W C params body scope qs) ∧ noStars es = true
  | .nil, X, W, m, K, l, cs, es, h => by
    match es, h with
    | [.Lambda params body scope p], h =>
      have h : lamC m l cs params body scope = true := h
      obtain ⟨h1, h2, h3, h4, h5, h6⟩ := lamC_of K h
      exact ⟨params, body, scope, h, sn_nil K.S K.tb h2 (K.lm.df l params body scope h1) h6, rfl⟩
  | .cons q qs, X, W, m, K, l, cs, es, h => by
    cases es with
    | nil => cases h
    | cons e es =>
      obtain ⟨h1, h2, h3⟩ := and3 (show (noStar e && mE m q e && mSn m l cs qs es) = true from h)
      obtain ⟨params, body, scope, a1, a2, a3⟩ := sSn qs K l cs es h3
      refine ⟨params, body, scope, a1, sn_cons (sE q K e h2).1 a2 h1, ?_⟩
      show (noStar e && noStars es) = true; rw [h1, a3]; rfl
theorem sAnd : ∀ (qs : EL) {X : Cx} {W : WX} {m : MC} (K : Ctx X c cb W C m) (y : Expr) (zs : List Expr), mL m qs (y :: zs) = true → ∀ pos : Pos, PE X (.BoolOp .And (y :: zs) pos) (tE c W (muL qs) (evAnd C qs)) ∧ PW X (.BoolOp .And (y :: zs) pos) (tTs c W (muL qs) fun en => tail (evAnd C qs en))
  | .nil, X, W, m, K, y, zs, h, pos => by cases h
  | .cons q qs, X, W, m, K, y, zs, h, pos => by
    obtain ⟨h1, h2, h3⟩ := and3 (show (noStar y && mE m q y && mL m qs zs) = true from h)
    have r := sE q K y h2
    cases zs with
    | nil =>
      cases qs with
      | nil => exact ⟨sem_and1 K.G r.1, test_and1 r.2⟩
      | cons q2 qs => cases h3
    | cons z zs =>
      cases qs with
      | nil => cases h3
      | cons q2 qs =>
        have r2 := sAnd (.cons q2 qs) K z zs h3 pos
        exact ⟨sem_andN K.G r.1 r2.1, test_andN r.2 r2.2⟩
theorem sOr : ∀ (qs : EL) {X : Cx} {W : WX} {m : MC} (K : Ctx X c cb W C m) (y : Expr) (zs : List Expr), mL m qs (y :: zs) = true → ∀ pos : Pos, PE X (.BoolOp .Or (y :: zs) pos) (tE c W (muL qs) (evOr C qs)) ∧ PW X (.BoolOp .Or (y :: zs) pos) (tTs c W (muL qs) fun en => tail (evOr C qs en))
  | .nil, X, W, m, K, y, zs, h, pos => by cases h
  | .cons q qs, X, W, m, K, y, zs, h, pos => by
    obtain ⟨h1, h2, h3⟩ := and3 (show (noStar y && mE m q y && mL m qs zs) = true from h)
    have r := sE q K y h2
    cases zs with
    | nil =>
      cases qs with
      | nil => exact ⟨sem_or1 K.G r.1, test_or1 r.2⟩
      | cons q2 qs => cases h3
    | cons z zs =>
      cases qs with
      | nil => cases h3
      | cons q2 qs =>
        have r2 := sOr (.cons q2 qs) K z zs h3 pos
        exact ⟨sem_orN K.G r.1 r2.1, test_orN r.2 r2.2⟩
theorem sTs : ∀ (qs : EL) {X : Cx} {W : WX} {m : MC} (K : Ctx X c cb W C m) (es : List Expr), mL m qs es = true → elLen qs ≤ 1 → PTs X es (tTs c W (muL qs) (fun e => evAnd1 C qs e))
  | .nil, X, W, m, K, es, h, hl => by
    cases es with
    | nil => exact sem_ts0
    | cons e es => cases h
  | .cons q qs, X, W, m, K, es, h, hl => by
    cases es with
    | nil => cases h
    | cons e es =>
      obtain ⟨h1, h2, h3⟩ := and3 (show (noStar e && mE m q e && mL m qs es) = true from h)
      cases qs with
      | nil =>
        cases es with
        | nil => exact sem_ts1 (sE q K e h2).2
        | cons e2 es => cases h3
      | cons q2 qs => exact absurd (show elLen qs + 1 + 1 ≤ 1 from hl) (by omega)
theorem sO : ∀ (qo : OE) {X : Cx} {W : WX} {m : MC} (K : Ctx X c cb W C m) (o : Option Expr), mO m qo o = true → (match o, qo with | none, .none => True | some l, .some q => PEq X c W C l q | _, _ => False)
  | .none, X, W, m, K, o, h => by
    cases o with
    | none => exact True.intro
    | some e => cases h
  | .some q, X, W, m, K, o, h => by
    cases o with
    | none => cases h
    | some e => exact (sE q K e h).1
theorem sI : ∀ (qi : QQ.IT) {X : Cx} {W : WX} {m : MC} (K : Ctx X c cb W C m) (e : Expr), mI m qi e = true → ∀ tg, (isPair qi = true → isTupX tg = true) → PIq X c W C tg e qi
  | .seq q, X, W, m, K, e, h, tg, _ => sem_itseq K.G (sE q K e h).1
  | .rng es, X, W, m, K, e, h, tg, _ => by
    match e, h with
    | .Call (.Name x _) as [] _, h =>
      have h : (decide (x = "range") && glC m.sc x && mL m es as && (as.length == 1 || as.length == 2)) = true := h
      obtain ⟨h1, h3, h4⟩ := and3 h
      obtain ⟨h1, h2⟩ := and2 h1
      have h1 := of_decide_eq_true h1
      subst h1
      obtain ⟨a1, a2, a3⟩ := sL es K as h3
      exact sem_itrng K.G (gl_of K h2) (K.bl _ (by decide)) a1 a2 (isLong h4)
  | .enum q, X, W, m, K, e, h, tg, ht => by
    match e, h with
    | .Call (.Name x _) [a] [] _, h =>
      have h : (decide (x = "enumerate") && glC m.sc x && mE m q a && noStar a) = true := h
      obtain ⟨h1, h3, h4⟩ := and3 h
      obtain ⟨h1, h2⟩ := and2 h1
      have h1 := of_decide_eq_true h1
      subst h1
      obtain ⟨ts, kk, tp, rfl⟩ := isTupX_of (ht rfl)
      exact sem_itenum K.G (gl_of K h2) (K.bl _ (by decide)) (sE q K a h3).1 h4
  | .zip qa qb, X, W, m, K, e, h, tg, ht => by
    match e, h with
    | .Call (.Name x _) [a, b] [] _, h =>
      have h : (decide (x = "zip") && glC m.sc x && mE m qa a && mE m qb b && noStar a && noStar b) = true := h
      obtain ⟨h1, h5, h6⟩ := and3 h
      obtain ⟨h1, h3, h4⟩ := and3 h1
      obtain ⟨h1, h2⟩ := and2 h1
      have h1 := of_decide_eq_true h1
      subst h1
      obtain ⟨ts, kk, tp, rfl⟩ := isTupX_of (ht rfl)
      exact sem_itzip K.G (gl_of K h2) (K.bl _ (by decide)) (sE qa K a h3).1 (sE qb K b h4).1 h5 h6
theorem sF : ∀ (qi : QQ.IT) {X : Cx} {W : WX} {m : MC} (K : Ctx X c cb W C m) (e : Expr), isFx qi = true → mI m qi e = true → ∀ tg, PIf X c W C tg e qi
  | .seq q, X, W, m, K, e, _, h, tg => sem_itseqF K.G (sE q K e h).1
  | .rng es, X, W, m, K, e, _, h, tg => by
    match e, h with
    | .Call (.Name x _) as [] _, h =>
      have h : (decide (x = "range") && glC m.sc x && mL m es as && (as.length == 1 || as.length == 2)) = true := h
      obtain ⟨h1, h3, h4⟩ := and3 h
      obtain ⟨h1, h2⟩ := and2 h1
      have h1 := of_decide_eq_true h1
      subst h1
      obtain ⟨a1, a2, a3⟩ := sL es K as h3
      exact sem_itrngF K.G (gl_of K h2) (K.bl _ (by decide)) a1 a2 (isLong h4)
  | .enum q, X, W, m, K, e, h, _, tg => by cases h
  | .zip qa qb, X, W, m, K, e, h, _, tg => by cases h
end
end
end QQ
namespace QQ
open PySem L2

/-! ### what a store asks -/
def bkC (sc : Scope) : Bool := (if sc.kind.isAnnotationScope then ScopeKind.function else sc.kind) == .function
/-- name = e: does it store behind a comprehension's end? -/
def swC (sc : Scope) (t : Str) (p : Pos) : Expr → Option Bool
  | .ListComp _ _ s q => some (bkC sc && sc.names.lookup t == some .local && p.line == q.line && !(s.names.any fun z => z.1 == t && (z.2 == .local || z.2 == .cell)))
  | .SetComp _ _ _ _ => none
  | .DictComp _ _ _ _ _ => none
  | _ => some false
theorem swC_of {env : Env} {t : Str} {p : Pos} {e : Expr} {b : Bool} (h : swC env.scope t p e = some b) (l : Nat) : swapsWith e (some (.Name t p)) l env = pure b := by
  cases e with
  | ListComp a g s q => cases h; rfl
  | SetComp _ _ _ _ => cases h
  | DictComp _ _ _ _ _ => cases h
  | _ => cases h; rfl
def noComp : Expr → Bool
  | .ListComp _ _ _ _ => false
  | .SetComp _ _ _ _ => false
  | .DictComp _ _ _ _ _ => false
  | _ => true
theorem sw_none {env : Env} {e : Expr} (h : noComp e = true) (l : Nat) : swapsWith e none l env = pure false := by
  cases e <;> first | rfl | cases h
def noTup : Expr → Bool
  | .Tuple _ _ _ => false
  | _ => true
theorem sole_tup {env : Env} {e : Expr} {es : List Expr} {k : Nat} {p : Pos} (l : Nat) : swapsWithSole [.Tuple es k p] e l env = pure false := by
  cases e <;> rfl
theorem sole_sub {env : Env} {e a b : Expr} {p : Pos} (l : Nat) : swapsWithSole [.Subscript a b p] e l env = pure false := by
  cases e <;> rfl
theorem st_noTup {env : Env} {t e : Expr} (h : noTup e = true) : swappedStores [t] e env = pure none := by
  unfold swappedStores
  cases e <;> first | (cases h; done) | (cases t <;> rfl)
theorem st_sub {env : Env} {e a b : Expr} {p : Pos} : swappedStores [.Subscript a b p] e env = pure none := by
  unfold swappedStores
  cases e <;> rfl
theorem st_fold {env : Env} {ts vs : List Expr} {k1 k2 : Nat} {p1 p2 : Pos} (h : vs.all (foldedForSure 8) = true) : swappedStores [.Tuple ts k1 p1] (.Tuple vs k2 p2) env = pure none := by
  unfold swappedStores
  simp only [h]
  repeat' (first | rfl | split)
/-- not a name among the targets -/
def isNm : Expr → Bool
  | .Name _ _ => true
  | _ => false
theorem st_nest {env : Env} {ts vs : List Expr} {k1 k2 : Nat} {p1 p2 : Pos} (h : ts.all isNm = false) : swappedStores [.Tuple ts k1 p1] (.Tuple vs k2 p2) env = pure none := by
  unfold swappedStores
  simp only
  have key : ∀ f : Expr → Option Str, (∀ e, isNm e = false → f e = none) → ((ts.filterMap f).length != ts.length) = true := fun f hf => by
    rw [bne_iff_ne]
    intro z
    have z := List.filterMap_length_eq_length.mp z
    have : ts.all isNm = true := List.all_eq_true.mpr fun e he => by
      cases hq : isNm e with
      | true => rfl
      | false => have := z e he; rw [hf e hq] at this; cases this
    rw [h] at this; cases this
  split
  · rfl
  · split
    · rfl
    · rw [if_pos]
      refine (Bool.or_eq_true _ _).mpr (.inl (key _ fun e he => ?_))
      cases e <;> first | rfl | cases he
/-- not a local name among the targets -/
def isLc (sc : Scope) : Expr → Bool
  | .Name x _ => sc.names.lookup x == some .local
  | _ => false
theorem st_cell {env : Env} {ts vs : List Expr} {k1 k2 : Nat} {p1 p2 : Pos} (h : ts.all (isLc env.scope) = false) : swappedStores [.Tuple ts k1 p1] (.Tuple vs k2 p2) env = pure none := by
  unfold swappedStores
  simp only
  have key : ∀ f : Expr → Option Str, (∀ e, isLc env.scope e = false → f e = none) → ((ts.filterMap f).length != ts.length) = true := fun f hf => by
    rw [bne_iff_ne]
    intro z
    have z := List.filterMap_length_eq_length.mp z
    have : ts.all (isLc env.scope) = true := List.all_eq_true.mpr fun e he => by
      cases hq : isLc env.scope e with
      | true => rfl
      | false => have := z e he; rw [hf e hq] at this; cases this
    rw [h] at this; cases this
  split
  · rfl
  · split
    · rfl
    · rw [if_pos]
      refine (Bool.or_eq_true _ _).mpr (.inl (key _ fun e he => ?_))
      cases e with
      | Name x p =>
        have he : (env.scope.names.lookup x == some .local) = false := he
        show (if (env.kindOf x == some .local && _) = true then some x else none) = none
        unfold Env.kindOf
        rw [he, Bool.false_and, if_neg Bool.false_ne_true]
      | _ => rfl
/-- the names of a, b = .. -/
def parN (sc : Scope) (x : Str) (p q : Pos) : Bool := sc.names.lookup x == some .local && p.line == q.line
def parV (vs : List Expr) : Bool := noStars vs && !(vs.all (foldedForSure 8)) && !(vs.all (constantsAlone 8))
theorem noStars_any : ∀ {vs : List Expr}, noStars vs = true → (vs.any fun | .Starred .. => true | _ => false) = false
  | [], _ => rfl
  | e :: es, h => by
    obtain ⟨h1, h2⟩ := and2 (show (noStar e && noStars es) = true from h)
    rw [List.any_cons, noStars_any h2]
    cases e <;> first | rfl | cases h1
theorem par2_of {env : Env} {x y : Str} {a b : Expr} {px py pt pt2 : Pos} {kt k2 : Nat} (hb : bkC env.scope = true) (hx : parN env.scope x px px = true) (hy : parN env.scope y py px = true) (hxy : x ≠ y) (hv : parV [a, b] = true) :
    swappedStores [.Tuple [.Name x px, .Name y py] kt pt] (.Tuple [a, b] k2 pt2) env = pure (some [x, y]) := by
  obtain ⟨h1, h2, h3⟩ := and3 hv
  obtain ⟨x1, x2⟩ := and2 hx
  have x1 : (env.kindOf x == some NameKind.local) = true := x1
  obtain ⟨y1, y2⟩ := and2 hy
  have y1 : (env.kindOf y == some NameKind.local) = true := y1
  have e1 : (env.blockKind != ScopeKind.function) = false := by
    show (!(env.blockKind == ScopeKind.function)) = false
    rw [show (env.blockKind == ScopeKind.function) = true from hb]; rfl
  have ed : ([x, y] : List Str).eraseDups = [x, y] := by
    simp [List.eraseDups_cons, Ne.symm hxy]
  have sa := noStars_any h1
  simp only [Bool.not_eq_true'] at h2 h3
  unfold swappedStores
  simp only [e1, List.filterMap_cons, List.filterMap_nil, List.head?_cons, Option.map_some, Option.getD_some, Expr.pos, x1, x2, y1, y2, ed, h2, h3, Bool.and_self, if_true, List.length_cons, List.length_nil]
  exact (if_neg (by decide)).trans ((if_neg (fun z => Bool.false_ne_true (sa.symm.trans z))).trans ((if_neg (by decide)).trans rfl))
theorem par3_of {env : Env} {x y z : Str} {a b d : Expr} {px py pz pt pt2 : Pos} {kt k2 : Nat} (hb : bkC env.scope = true) (hx : parN env.scope x px px = true) (hy : parN env.scope y py px = true) (hz : parN env.scope z pz px = true) (hxy : x ≠ y) (hxz : x ≠ z) (hyz : y ≠ z) (hv : parV [a, b, d] = true) :
    swappedStores [.Tuple [.Name x px, .Name y py, .Name z pz] kt pt] (.Tuple [a, b, d] k2 pt2) env = pure (some [x, y, z]) := by
  obtain ⟨h1, h2, h3⟩ := and3 hv
  obtain ⟨x1, x2⟩ := and2 hx
  have x1 : (env.kindOf x == some NameKind.local) = true := x1
  obtain ⟨y1, y2⟩ := and2 hy
  have y1 : (env.kindOf y == some NameKind.local) = true := y1
  obtain ⟨z1, z2⟩ := and2 hz
  have z1 : (env.kindOf z == some NameKind.local) = true := z1
  have e1 : (env.blockKind != ScopeKind.function) = false := by
    show (!(env.blockKind == ScopeKind.function)) = false
    rw [show (env.blockKind == ScopeKind.function) = true from hb]; rfl
  have ed : ([x, y, z] : List Str).eraseDups = [x, y, z] := by
    simp [List.eraseDups_cons, Ne.symm hxy, Ne.symm hxz, Ne.symm hyz]
  have sa := noStars_any h1
  simp only [Bool.not_eq_true'] at h2 h3
  unfold swappedStores
  simp only [e1, List.filterMap_cons, List.filterMap_nil, List.head?_cons, Option.map_some, Option.getD_some, Expr.pos, x1, x2, y1, y2, z1, z2, ed, h2, h3, Bool.and_self, if_true, List.length_cons, List.length_nil]
  exact (if_neg (by decide)).trans ((if_neg (fun z => Bool.false_ne_true (sa.symm.trans z))).trans ((if_neg (by decide)).trans rfl))

/-! ### forms -/
def asAsg : Stmt → Option (Expr × Expr × Pos)
  | .Assign ts e p => match ts with
    | [t] => some (t, e, p)
    | _ => none
  | _ => none
theorem asAsg_of {st : Stmt} {t e : Expr} {p : Pos} (h : asAsg st = some (t, e, p)) : st = .Assign [t] e p := by
  cases st with
  | Assign ts e' p' =>
    cases ts with
    | nil => cases h
    | cons a r =>
      cases r with
      | nil => cases h; rfl
      | cons _ _ => cases h
  | _ => cases h
def asName : Expr → Option (Str × Pos)
  | .Name x p => some (x, p)
  | _ => none
theorem asName_of {e : Expr} {x : Str} {p : Pos} (h : asName e = some (x, p)) : e = .Name x p := by
  cases e with
  | Name _ _ => cases h; rfl
  | _ => cases h
def asTup : Expr → Option (List Expr × Nat × Pos)
  | .Tuple es k p => some (es, k, p)
  | _ => none
theorem asTup_of {e : Expr} {es : List Expr} {k : Nat} {p : Pos} (h : asTup e = some (es, k, p)) : e = .Tuple es k p := by
  cases e with
  | Tuple _ _ _ => cases h; rfl
  | _ => cases h
def asSub : Expr → Option (Expr × Expr × Pos)
  | .Subscript a b p => some (a, b, p)
  | _ => none
theorem asSub_of {e a b : Expr} {p : Pos} (h : asSub e = some (a, b, p)) : e = .Subscript a b p := by
  cases e with
  | Subscript _ _ _ => cases h; rfl
  | _ => cases h
def foldT (e : Expr) : Bool := match asTup e with
  | some (vs, _, _) => vs.all (foldedForSure 8)
  | none => false
def lcq : E → Bool
  | .lc _ _ _ _ _ _ => true
  | .lc2 _ _ _ _ _ _ _ _ _ _ => true
  | _ => false
def plainSt (sc : Scope) (ts : List Expr) (e : Expr) : Bool := noTup e || foldT e || !(ts.all isNm) || !(ts.all (isLc sc))
theorem plainSt_of {env : Env} {ts : List Expr} {e : Expr} {kt : Nat} {pt : Pos} (h3 : plainSt env.scope ts e = true) : swappedStores [.Tuple ts kt pt] e env = pure none := by
  unfold plainSt at h3
  rw [Bool.or_eq_true, Bool.or_eq_true, Bool.or_eq_true] at h3
  rcases h3 with ((h3 | h3) | h3) | h3
  · exact st_noTup h3
  · unfold foldT at h3
    cases ht : asTup e with
    | none => rw [ht] at h3; cases h3
    | some xp =>
      obtain ⟨vs, k2, p2⟩ := xp
      rw [ht] at h3
      rw [asTup_of ht]
      exact st_fold h3
  · cases hn : noTup e with
    | true => exact st_noTup hn
    | false =>
      cases e with
      | Tuple vs k2 p2 => exact st_nest (by simpa using h3)
      | _ => cases hn
  · cases hn : noTup e with
    | true => exact st_noTup hn
    | false =>
      cases e with
      | Tuple vs k2 p2 => exact st_cell (by simpa using h3)
      | _ => cases hn
def swOk (m : MC) (x : Str) (p : Pos) (q : E) (e : Expr) : Bool := match swC m.sc x p e with
  | some false => true
  | some true => lclC m.sc x && lcq q
  | none => false
/-! ### the checker of statements -/
def asgC (m : MC) (g : Pat) (q : E) (tg e : Expr) : Bool := match g with
  | .nm i => match asName tg with
    | some (x, p) => mP m (.nm i) (.Name x p) && mE m q e && swOk m x p q e
    | none => false
  | .tp ps => match asTup tg with
    | some (ts, kt, pt) => mP m (.tp ps) (.Tuple ts kt pt) && mE m q e && plainSt m.sc ts e
    | none => false
def setC (m : MC) (i : Nat) (pp : EL) (q : E) (tg e : Expr) : Bool := match pp with
  | .cons qa .nil => match asSub tg with
    | some (o, a, _) => match asName o with
      | some (x, _) => nameC m i x && mE m qa a && plainIx a && mE m q e
      | none => false
    | none => false
  | _ => false
def par2C (m : MC) (i j : Nat) (es : EL) (x y : Str) (px py : Pos) (a b : Expr) : Bool := decide (m.N[i]? = some x) && decide (m.N[j]? = some y) && decide (i ≠ j) && decide (x ≠ y) && bkC m.sc && lclC m.sc x && lclC m.sc y && (px.line == px.line) && (py.line == px.line) && parV [a, b] && mL m es [a, b] && !m.ios.contains i && !m.ios.contains j
def as2 {α : Type} : List α → Option (α × α)
  | [a, b] => some (a, b)
  | _ => none
theorem as2_of {α : Type} {l : List α} {a b : α} (h : as2 l = some (a, b)) : l = [a, b] := by
  match l, h with
  | [a, b], h => cases h; rfl
def parC (m : MC) (is : List Nat) (es : EL) (tg e : Expr) : Bool := match as2 is, asTup tg, asTup e with
  | some (i, j), some (ts, _, _), some (vs, _, _) => match as2 ts, as2 vs with
    | some (t, u), some (a, b) => match asName t, asName u with
      | some (x, px), some (y, py) => par2C m i j es x y px py a b
      | _, _ => false
    | _, _ => false
  | _, _, _ => false
/-- several targets -/
def lvC (m : MC) : LV → Expr → Bool
  | .nm i, e => mP m (.nm i) e
  | .sub i p, e => match p with
    | .cons qa .nil => match asSub e with
      | some (o, a, _) => match asName o with
        | some (x, _) => nameC m i x && mE m qa a && plainIx a
        | none => false
      | none => false
    | .cons qa (.cons qb .nil) => match asSub e with
      | some (o, b, _) => match asSub o with
        | some (o2, a, _) => match asName o2 with
          | some (x, _) => nameC m i x && mE m qa a && plainIx a && mE m qb b && plainIx b
          | none => false
        | none => false
      | none => false
    | _ => false
def lvsC (m : MC) : List LV → List Expr → Bool
  | [], es => es.isEmpty
  | t :: ts, es => match es with
    | [] => false
    | e :: es => noStar e && lvC m t e && lvsC m ts es
def asgmC (m : MC) (ts : List LV) (q : E) (tg e : Expr) : Bool := match asTup tg with
  | some (es, _, _) => lvsC m ts es && mE m q e && plainSt m.sc es e
  | none => false
def as3 {α : Type} : List α → Option (α × α × α)
  | [a, b, c] => some (a, b, c)
  | _ => none
theorem as3_of {α : Type} {l : List α} {a b c : α} (h : as3 l = some (a, b, c)) : l = [a, b, c] := by
  match l, h with
  | [a, b, c], h => cases h; rfl
def par3C (m : MC) (i j l : Nat) (es : EL) (x y z : Str) (px py pz : Pos) (a b d : Expr) : Bool := decide (m.N[i]? = some x) && decide (m.N[j]? = some y) && decide (m.N[l]? = some z) && decide (i ≠ j) && decide (i ≠ l) && decide (j ≠ l) && decide (x ≠ y) && decide (x ≠ z) && decide (y ≠ z) && bkC m.sc && lclC m.sc x && lclC m.sc y && lclC m.sc z && (px.line == px.line) && (py.line == px.line) && (pz.line == px.line) && parV [a, b, d] && mL m es [a, b, d] && !m.ios.contains i && !m.ios.contains j && !m.ios.contains l
def parC3 (m : MC) (is : List Nat) (es : EL) (tg e : Expr) : Bool := match as3 is, asTup tg, asTup e with
  | some (i, j, l), some (ts, _, _), some (vs, _, _) => match as3 ts, as3 vs with
    | some (t, u, v), some (a, b, d) => match asName t, asName u, asName v with
      | some (x, px), some (y, py), some (z, pz) => par3C m i j l es x y z px py pz a b d
      | _, _, _ => false
    | _, _ => false
  | _, _, _ => false
mutual
def mS (m : MC) : S → Stmt → Bool
  | .asg g q, st => match asAsg st with
    | some (tg, e, _) => asgC m g q tg e
    | none => false
  | .set i p q, st => match asAsg st with
    | some (tg, e, _) => setC m i p q tg e
    | none => false
  | .par is es, st => match asAsg st with
    | some (tg, e, _) => parC m is es tg e || parC3 m is es tg e
    | none => false
  | .aug i o q, st => match st with
    | .AugAssign tg op e _ => match asName tg with
      | some (x, p) => decide (op = opB o) && decide (o ≠ .pow) && mP m (.nm i) (.Name x p) && mE m q e
      | none => false
    | _ => false
  | .ex q, st => match st with
    | .Expr e _ => mE m q e && noComp e
    | _ => false
  | .ret q, st => match st with
    | .Return o _ => match o with
      | some e => mE m q e
      | none => false
    | _ => false
  | .retN, st => match st with
    | .Return o _ => o.isNone
    | _ => false
  | .ite q a b, st => match st with
    | .If t x y _ => mE m q t && mSs m a x && mSs m b y
    | _ => false
  | .for_ g it body, st => match st with
    | .For tg iter b els _ => els.isEmpty && mP m g tg && mI m it iter && noSet iter && (!isPair it || isTp g) && mSs m body b
    | _ => false
  | .whl q body, st => match st with
    | .While t b els _ => els.isEmpty && mE m q t && mSs m body b
    | _ => false
  | .pass, st => match st with
    | .Pass _ => true
    | _ => false
  | .stk, _ => true
  | .asgm ts q, st => match asAsg st with
    | some (tg, e, _) => asgmC m ts q tg e
    | none => false
def mSs (m : MC) : SL → List Stmt → Bool
  | .nil, ss => ss.isEmpty
  | .cons q qs, ss => match ss with
    | [] => false
    | s :: ss => mS m q s && mSs m qs ss
end
section
variable {X : Cx} {c cb : Cb} {W : WX} {C : Orc} {m : MC} {WF : Nat}
theorem io_of (K : Ctx X c cb W C m) {g : Pat} {tg : Expr} (h : mP m g tg = true) : ∀ i, i ∈ ptL g → ∀ p ∈ c.iov, p.1 ≠ i := fun i hi => K.io i (mP_ios g tg h i hi)
theorem sub_tgt {o i : Expr} {p : Pos} (h : plainIx i = true) (v : Value) : assign (.Subscript o i p) X.env v = (do
      let ov ← holding [v] (eval o X.env)
      let iv ← holding [v, ov] (eval i X.env)
      standAt p
      holding [v, ov, iv] (setItem ov iv v)
      release [v, ov, iv] []) := by
  cases i <;> first | rfl | cases h
structure NmC (m : MC) (i : Nat) (x : Str) : Prop where
  hi : m.N[i]? = some x
  loc : locC m.sc x = true
  fn : fnC m x = true ∨ lclC m.sc x = true
theorem nmC_of {i : Nat} {x : Str} {p : Pos} (h : mP m (.nm i) (.Name x p) = true) : NmC m i x := by
  have h : (decide (m.N[i]? = some x) && locC m.sc x && (fnC m x || lclC m.sc x) && !m.ios.contains i) = true := h
  simp only [Bool.and_eq_true, Bool.or_eq_true, decide_eq_true_eq] at h
  exact ⟨h.1.1.1, h.1.1.2, h.1.2⟩
/-- name = [.. for ..] on one line -/
theorem sem_setLc (K : Ctx X c cb W C m) {i : Nat} {x : Str} {p : Pos} {k : Nat} {own : List Nat} {g : Pat} {it : QQ.IT} {ifs : EL} {el : E} {e : Expr} {pos : Pos} (ht : mP m (.nm i) (.Name x p) = true) (he : mE m (.lc k own g it ifs el) e = true) (hx : lclC m.sc x = true) (hw : swC m.sc x p e = some true) :
    PSq X c W C WF (.Assign [.Name x p] e pos) (.asg (.nm i) (.lc k own g it ifs el)) := by
  match e, he, hw with
  | .ListComp y [⟨tg, iter, cs, 0⟩] scope ps, he, hw =>
    have h := lcC_of he
    have F := sI it K iter h.hit
    refine (ps_setLc (own := own.filterMap fun i => m.N[i]?.map fun x => (x, i)) (g := gPt X.K g) (tt := tTs c Wf (muL ifs) (fun e => evAnd1 C ifs e)) (te := tE c Wf (muE el) (ev C el)) K.G.hc K.G.hN (by rw [K.hN]; exact (nmC_of ht).hi) (by rw [K.sc]; exact lcl_of hx) (swC_of (by rw [K.sc]; exact hw) _) (F tg (pr_tup h.pr h.htg)) (blkOk_by (by rw [K.hN, K.sc]; exact h.blk)) (fun s H Ca cl fp => (sP (K.inB scope s H Ca cl fp) g tg h.htg).1) (fun s H Ca cl fp => sTs ifs (K.inB scope s H Ca cl fp) cs h.hifs h.len)
        (fun s H Ca cl fp => (sE el (K.inB scope s H Ca cl fp) y h.helt).1) (fset_of h.set X.env)).imp fun D σ H hq => ?_
    have hq := sem_asgR (e := y) (te := tE c W (muE (.lc k own g it ifs el)) (ev C (.lc k own g it ifs el))) K.G (io_of K ht i (List.mem_singleton.mpr rfl)) hq
    show tLc _ _ _ _ _ σ H fun x H1 => gName i x σ H1 D.nx
    rw [h.oeq]
    exact lc_read K.G h.pt (fun i hi => K.io i (h.io i hi)) h.pr hq
theorem sem_setLc2 (K : Ctx X c cb W C m) {i : Nat} {x : Str} {p : Pos} {k : Nat} {own : List Nat} {g : Pat} {it : QQ.IT} {ifs : EL} {own1 : List Nat} {g1 : Pat} {it1 : QQ.IT} {ifs1 : EL} {el : E} {e : Expr} {pos : Pos} (ht : mP m (.nm i) (.Name x p) = true) (he : mE m (.lc2 k own g it ifs own1 g1 it1 ifs1 el) e = true) (hx : lclC m.sc x = true) (hw : swC m.sc x p e = some true) :
    PSq X c W C WF (.Assign [.Name x p] e pos) (.asg (.nm i) (.lc2 k own g it ifs own1 g1 it1 ifs1 el)) := by
  match e, he, hw with
  | .ListComp y [⟨tg, iter, cs, 0⟩, ⟨tg1, iter1, cs1, 0⟩] scope ps, he, hw =>
    obtain ⟨h, k1, k2, k3, k4, k5, k6, k7, k8⟩ := lc2C_of he
    have F := sI it K iter h.hit
    refine (ps_setLc2 (own := own.filterMap fun i => m.N[i]?.map fun x => (x, i)) (vs1 := own1) (wi1 := tItF c Wf (muI it1) (evF C it1)) (g := gPt X.K g) (g1 := gPt X.K g1) (tt := tTs c Wf (muL ifs) (fun e => evAnd1 C ifs e)) (tt1 := tTs c Wf (muL ifs1) (fun e => evAnd1 C ifs1 e)) (te := tE c Wf (muE el) (ev C el)) K.G.hc K.G.hN (by rw [K.hN]; exact (nmC_of ht).hi) (by rw [K.sc]; exact lcl_of hx) (swC_of (by rw [K.sc]; exact hw) _) (F tg (pr_tup h.pr h.htg)) (blkOk_by (by rw [K.hN, K.sc]; exact h.blk)) (by rw [h.oeq]; exact k4) (fun s H Ca cl fp => (sP (K.inB scope s H Ca cl fp) g tg h.htg).1) (fun s H Ca cl fp => sTs ifs (K.inB scope s H Ca cl fp) cs h.hifs h.len)
        (fun s H Ca cl fp => sF it1 (K.inB scope s H Ca cl fp) iter1 k1 k2 tg1) (fun s H Ca cl fp => (sP (K.inB scope s H Ca cl fp) g1 tg1 k3).1) (fun s H Ca cl fp => sTs ifs1 (K.inB scope s H Ca cl fp) cs1 k7 k8)
        (fun s H Ca cl fp => (sE el (K.inB scope s H Ca cl fp) y h.helt).1) (fset_of h.set X.env) (fun env x => fset_of k6 env x)).imp fun D σ H hq => ?_
    have hq := sem_asgR (e := y) (te := tE c W (muE (.lc2 k own g it ifs own1 g1 it1 ifs1 el)) (ev C (.lc2 k own g it ifs own1 g1 it1 ifs1 el))) K.G (io_of K ht i (List.mem_singleton.mpr rfl)) hq
    show tLc2 _ _ _ _ _ _ _ _ _ σ H fun x H1 => gName i x σ H1 D.nx
    rw [h.oeq]
    exact lc2_read K.G h.pt k5 k4 (fun i hi => K.io i (h.io i hi)) h.pr hq
theorem s_asg (K : Ctx X c cb W C m) {g : Pat} {q : E} {tg e : Expr} {pos : Pos} (h : asgC m g q tg e = true) : PSq X c W C WF (.Assign [tg] e pos) (.asg g q) := by
  cases g with
  | nm i =>
    unfold asgC at h
    cases hn : asName tg with
    | none => rw [hn] at h; cases h
    | some xp =>
      obtain ⟨x, p⟩ := xp
      rw [hn] at h
      rw [asName_of hn]
      obtain ⟨h1, h2, h3⟩ := and3 (show (mP m (.nm i) (.Name x p) && mE m q e && swOk m x p q e) = true from h)
      have N := nmC_of h1
      unfold swOk at h3
      cases hw : swC m.sc x p e with
      | none => rw [hw] at h3; cases h3
      | some b =>
        rw [hw] at h3
        cases b with
        | false =>
          exact (ps_set K.G.hN (by rw [K.hN]; exact N.hi) (by rw [K.sc]; exact loc_of N.loc) (sE q K e h2).1 (swC_of (by rw [K.sc]; exact hw) _) (N.fn.imp (K.fn x) fun h => by rw [K.sc]; exact lcl_of h)).imp fun D σ H hq => sem_asgR (e := e) (te := tE c W (muE q) (ev C q)) K.G (io_of K h1 i (List.mem_singleton.mpr rfl)) hq
        | true =>
          obtain ⟨k1, k2⟩ := and2 (show (lclC m.sc x && lcq q) = true from h3)
          cases q with
          | lc k own g it ifs el => exact sem_setLc K h1 h2 k1 hw
          | lc2 k own g it ifs own1 g1 it1 ifs1 el => exact sem_setLc2 K h1 h2 k1 hw
          | _ => cases k2
  | tp ps =>
    unfold asgC at h
    cases hn : asTup tg with
    | none => rw [hn] at h; cases h
    | some xp =>
      obtain ⟨ts, kt, pt⟩ := xp
      rw [hn] at h
      rw [asTup_of hn]
      obtain ⟨h1, h2, h3⟩ := and3 (show (mP m (.tp ps) (.Tuple ts kt pt) && mE m q e && plainSt m.sc ts e) = true from h)
      exact sem_asgt K.G (sE q K e h2).1 (sP K _ _ h1).1 (sole_tup _) (plainSt_of (by rw [K.sc]; exact h3)) rfl (io_of K h1)
theorem s_lv (K : Ctx X c cb W C m) (t : LV) (e : Expr) (h : lvC m t e = true) : PG X e (gLV X.K c W C t) ∧ shortLV t = true ∧ ∀ i, t = .nm i → ∀ p ∈ c.iov, p.1 ≠ i := by
  cases t with
  | nm i => exact ⟨(sP K (.nm i) e h).1, rfl, fun j hj => by cases hj; exact io_of K h _ (List.mem_singleton.mpr rfl)⟩
  | sub i p =>
    refine ⟨?_, ?_, fun j hj => nomatch hj⟩
    · cases p with
      | nil => cases h
      | cons qa p =>
        cases p with
        | nil =>
          have h : (match asSub e with
            | some (o, a, _) => match asName o with
              | some (x, _) => nameC m i x && mE m qa a && plainIx a
              | none => false
            | none => false) = true := h
          cases hs : asSub e with
          | none => rw [hs] at h; cases h
          | some xp =>
            obtain ⟨o, a, tp⟩ := xp
            rw [hs] at h
            rw [asSub_of hs]
            cases hn : asName o with
            | none => simp only [hn] at h; cases h
            | some xp =>
              obtain ⟨x, px⟩ := xp
              simp only [hn] at h
              rw [asName_of hn]
              obtain ⟨h1, h2, h3⟩ := and3 h
              exact pg_sub (name_of K h1) (sE qa K a h2).1 set_list fun v => sub_tgt h3 v
        | cons qb p =>
          cases p with
          | cons _ _ => cases h
          | nil =>
            have h : (match asSub e with
              | some (o, b, _) => match asSub o with
                | some (o2, a, _) => match asName o2 with
                  | some (x, _) => nameC m i x && mE m qa a && plainIx a && mE m qb b && plainIx b
                  | none => false
                | none => false
              | none => false) = true := h
            cases hs : asSub e with
            | none => rw [hs] at h; cases h
            | some xp =>
              obtain ⟨o, b, tp⟩ := xp
              rw [hs] at h
              rw [asSub_of hs]
              cases hs2 : asSub o with
              | none => simp only [hs2] at h; cases h
              | some xp =>
                obtain ⟨o2, a, tp2⟩ := xp
                simp only [hs2] at h
                rw [asSub_of hs2]
                cases hn : asName o2 with
                | none => simp only [hn] at h; cases h
                | some xp =>
                  obtain ⟨x, px⟩ := xp
                  simp only [hn] at h
                  rw [asName_of hn]
                  obtain ⟨h1, h4, h5⟩ := and3 h
                  obtain ⟨h1, h2, h3⟩ := and3 h1
                  exact pg_sub (pe_ix ix_list (name_of K h1) (sE qa K a h2).1 (ix_of h3)) (sE qb K b h4).1 set_list fun v => sub_tgt h5 v
    · cases p with
      | nil => cases h
      | cons qa p =>
        cases p with
        | nil => rfl
        | cons qb p =>
          cases p with
          | nil => rfl
          | cons _ _ => cases h
theorem s_lvs (K : Ctx X c cb W C m) : ∀ (ts : List LV) (es : List Expr), lvsC m ts es = true → PGs X es (gLVs X.K c W C ts) ∧ (assignEach es X.env).length = ts.length ∧ (assignEach es X.env).findIdx? (·.1) = none ∧ ts.all shortLV = true ∧ ∀ i, LV.nm i ∈ ts → ∀ p ∈ c.iov, p.1 ≠ i
  | [], es, h => by
    cases es with
    | nil => exact ⟨pgs_nil, rfl, rfl, rfl, fun i hi => by cases hi⟩
    | cons e es => cases h
  | t :: ts, es, h => by
    cases es with
    | nil => cases h
    | cons e es =>
      obtain ⟨h1, h2, h3⟩ := and3 (show (noStar e && lvC m t e && lvsC m ts es) = true from h)
      obtain ⟨g1, g2, g3, g4, g5⟩ := s_lvs K ts es h3
      obtain ⟨a1, a2, a3⟩ := s_lv K t e h2
      have hc := asgE_cons h1 es X.env
      refine ⟨pgs_cons a1 g1 (by rw [hc]; rfl), by rw [hc]; show _ + 1 = _ + 1; rw [g2], ?_, ?_, fun i hi => ?_⟩
      · rw [hc, List.findIdx?_cons, if_neg (by exact Bool.false_ne_true), g3]; rfl
      · show (shortLV t && ts.all shortLV) = true; rw [a2, g4]; rfl
      · rcases List.mem_cons.mp hi with hi | hi
        · exact a3 i hi.symm
        · exact g5 i hi
theorem s_asgm (K : Ctx X c cb W C m) {ts : List LV} {q : E} {tg e : Expr} {pos : Pos} (h : asgmC m ts q tg e = true) : PSq X c W C WF (.Assign [tg] e pos) (.asgm ts q) := by
  unfold asgmC at h
  cases hn : asTup tg with
  | none => rw [hn] at h; cases h
  | some xp =>
    obtain ⟨es, kt, pt⟩ := xp
    rw [hn] at h
    rw [asTup_of hn]
    obtain ⟨h1, h2, h3⟩ := and3 (show (lvsC m ts es && mE m q e && plainSt m.sc es e) = true from h)
    obtain ⟨g1, g2, g3, g4, g5⟩ := s_lvs K ts es h1
    exact sem_asgm K.G (sE q K e h2).1 g1 g2 g3 (sole_tup _) (plainSt_of (by rw [K.sc]; exact h3)) g4 g5
theorem s_set (K : Ctx X c cb W C m) {i : Nat} {pp : EL} {q : E} {tg e : Expr} {pos : Pos} (h : setC m i pp q tg e = true) : PSq X c W C WF (.Assign [tg] e pos) (.set i pp q) := by
  cases pp with
  | nil => cases h
  | cons qa r =>
    cases r with
    | cons _ _ => cases h
    | nil =>
      unfold setC at h
      cases hs : asSub tg with
      | none => rw [hs] at h; cases h
      | some xp =>
        obtain ⟨o, a, tp⟩ := xp
        rw [hs] at h
        rw [asSub_of hs]
        cases hn : asName o with
        | none => simp only [hn] at h; cases h
        | some xp =>
          obtain ⟨x, p⟩ := xp
          simp only [hn] at h
          rw [asName_of hn]
          obtain ⟨h1, h3, h4⟩ := and3 (show (nameC m i x && mE m qa a && plainIx a && mE m q e) = true from h)
          obtain ⟨h1, h2⟩ := and2 h1
          exact sem_set1 K.G (name_of K h1) (sE q K e h4).1 (sE qa K a h2).1 (fun ho hi hs => pg_sub ho hi hs (fun v => sub_tgt h3 v)) (sole_sub _) st_sub rfl
theorem s_par (K : Ctx X c cb W C m) {is : List Nat} {es : EL} {tg e : Expr} {pos : Pos} (h : parC m is es tg e = true) : PSq X c W C WF (.Assign [tg] e pos) (.par is es) := by
  unfold parC at h
  cases h1 : as2 is with
  | none => rw [h1] at h; cases h
  | some ij =>
  obtain ⟨i, j⟩ := ij
  cases h2 : asTup tg with
  | none => rw [h1, h2] at h; cases h
  | some tt =>
  obtain ⟨ts, kt, pt⟩ := tt
  cases h3 : asTup e with
  | none => rw [h1, h2, h3] at h; cases h
  | some vv =>
  obtain ⟨vs, k2, pt2⟩ := vv
  rw [h1, h2, h3] at h
  cases h4 : as2 ts with
  | none => simp only [h4] at h; cases h
  | some tu =>
  obtain ⟨t, u⟩ := tu
  cases h5 : as2 vs with
  | none => simp only [h4, h5] at h; cases h
  | some ab =>
  obtain ⟨a, b⟩ := ab
  cases h6 : asName t with
  | none => simp only [h4, h5, h6] at h; cases h
  | some xp =>
  obtain ⟨x, px⟩ := xp
  cases h7 : asName u with
  | none => simp only [h4, h5, h6, h7] at h; cases h
  | some yp =>
  obtain ⟨y, py⟩ := yp
  simp only [h4, h5, h6, h7] at h
  rw [as2_of h1, asTup_of h2, asTup_of h3, as2_of h4, as2_of h5, asName_of h6, asName_of h7]
  unfold par2C at h
  simp only [Bool.and_eq_true, decide_eq_true_eq] at h
  obtain ⟨⟨⟨⟨⟨⟨⟨⟨⟨⟨⟨⟨g1, g2⟩, g3⟩, g4⟩, g5⟩, g6⟩, g7⟩, g8⟩, g9⟩, g10⟩, g11⟩, g12⟩, g13⟩ := h
  refine sem_par2 K.G (by rw [K.hN]; exact g1) (by rw [K.hN]; exact g2) g3 (by rw [K.sc]; exact lcl_of g6) (by rw [K.sc]; exact lcl_of g7) (sL es K [a, b] g11).1 (par2_of (by rw [K.sc]; exact g5) ?_ ?_ g4 g10) (sole_tup _) ?_
  · unfold parN; rw [K.sc, lcl_of g6, g8]; rfl
  · unfold parN; rw [K.sc, lcl_of g7, g9]; rfl
  · intro k hk
    rcases List.mem_cons.mp hk with rfl | hk
    · exact K.io _ (by simpa using g12)
    · rw [List.mem_singleton.mp hk]; exact K.io _ (by simpa using g13)
theorem s_par3 (K : Ctx X c cb W C m) {is : List Nat} {es : EL} {tg e : Expr} {pos : Pos} (h : parC3 m is es tg e = true) : PSq X c W C WF (.Assign [tg] e pos) (.par is es) := by
  unfold parC3 at h
  cases h1 : as3 is with
  | none => rw [h1] at h; cases h
  | some ij =>
  obtain ⟨i, j, l⟩ := ij
  cases h2 : asTup tg with
  | none => rw [h1, h2] at h; cases h
  | some tt =>
  obtain ⟨ts, kt, pt⟩ := tt
  cases h3 : asTup e with
  | none => rw [h1, h2, h3] at h; cases h
  | some vv =>
  obtain ⟨vs, k2, pt2⟩ := vv
  rw [h1, h2, h3] at h
  cases h4 : as3 ts with
  | none => simp only [h4] at h; cases h
  | some tu =>
  obtain ⟨t, u, v⟩ := tu
  cases h5 : as3 vs with
  | none => simp only [h4, h5] at h; cases h
  | some ab =>
  obtain ⟨a, b, d⟩ := ab
  cases h6 : asName t with
  | none => simp only [h4, h5, h6] at h; cases h
  | some xp =>
  obtain ⟨x, px⟩ := xp
  cases h7 : asName u with
  | none => simp only [h4, h5, h6, h7] at h; cases h
  | some yp =>
  obtain ⟨y, py⟩ := yp
  cases h8 : asName v with
  | none => simp only [h4, h5, h6, h7, h8] at h; cases h
  | some zp =>
  obtain ⟨z, pz⟩ := zp
  simp only [h4, h5, h6, h7, h8] at h
  rw [as3_of h1, asTup_of h2, asTup_of h3, as3_of h4, as3_of h5, asName_of h6, asName_of h7, asName_of h8]
  unfold par3C at h
  simp only [Bool.and_eq_true, decide_eq_true_eq] at h
  obtain ⟨⟨⟨⟨⟨⟨⟨⟨⟨⟨⟨⟨⟨⟨⟨⟨⟨⟨⟨⟨g1, g2⟩, g3⟩, g4⟩, g5⟩, g6⟩, g7⟩, g8⟩, g9⟩, g10⟩, g11⟩, g12⟩, g13⟩, g14⟩, g15⟩, g16⟩, g17⟩, g18⟩, g19⟩, g20⟩, g21⟩ := h
  refine sem_par3 K.G (by rw [K.hN]; exact g1) (by rw [K.hN]; exact g2) (by rw [K.hN]; exact g3) g4 g5 g6 (by rw [K.sc]; exact lcl_of g11) (by rw [K.sc]; exact lcl_of g12) (by rw [K.sc]; exact lcl_of g13) (sL es K [a, b, d] g18).1 (par3_of (by rw [K.sc]; exact g10) ?_ ?_ ?_ g7 g8 g9 g17) (sole_tup _) ?_
  · unfold parN; rw [K.sc, lcl_of g11, g14]; rfl
  · unfold parN; rw [K.sc, lcl_of g12, g15]; rfl
  · unfold parN; rw [K.sc, lcl_of g13, g16]; rfl
  · intro k hk
    rcases List.mem_cons.mp hk with rfl | hk
    · exact K.io _ (by simpa using g19)
    · rcases List.mem_cons.mp hk with rfl | hk
      · exact K.io _ (by simpa using g20)
      · rw [List.mem_singleton.mp hk]; exact K.io _ (by simpa using g21)
mutual
theorem sS (K : Ctx X c cb W C m) (hp : PassesOwn (model X.prog X.w) X.A X.env X.xe) : ∀ (s : S) (st : Stmt), mS m s st = true → PSq X c W C WF st s
  | .asg g q, st, h => by
    unfold mS at h
    cases ha : asAsg st with
    | none => rw [ha] at h; cases h
    | some t =>
      obtain ⟨tg, e, pos⟩ := t
      rw [ha] at h
      rw [asAsg_of ha]
      exact s_asg K h
  | .asgm ts q, st, h => by
    unfold mS at h
    cases ha : asAsg st with
    | none => rw [ha] at h; cases h
    | some t =>
      obtain ⟨tg, e, pos⟩ := t
      rw [ha] at h
      rw [asAsg_of ha]
      exact s_asgm K h
  | .set i p q, st, h => by
    unfold mS at h
    cases ha : asAsg st with
    | none => rw [ha] at h; cases h
    | some t =>
      obtain ⟨tg, e, pos⟩ := t
      rw [ha] at h
      rw [asAsg_of ha]
      exact s_set K h
  | .par is es, st, h => by
    unfold mS at h
    cases ha : asAsg st with
    | none => rw [ha] at h; cases h
    | some t =>
      obtain ⟨tg, e, pos⟩ := t
      rw [ha] at h
      rw [asAsg_of ha]
      rcases (Bool.or_eq_true _ _).mp h with h | h
      · exact s_par K h
      · exact s_par3 K h
  | .aug i o q, st, h => by
    cases st with
    | AugAssign tg op e pos =>
      unfold mS at h
      cases hn : asName tg with
      | none => simp only [hn] at h; cases h
      | some xp =>
        obtain ⟨x, p⟩ := xp
        simp only [hn] at h
        rw [asName_of hn]
        obtain ⟨h1, h3, h4⟩ := and3 h
        obtain ⟨h1, h2⟩ := and2 h1
        have N := nmC_of h3
        rw [of_decide_eq_true h1]
        exact sem_aug K.G (by rw [K.hN]; exact N.hi) (by rw [K.sc]; exact loc_of N.loc) (sE q K e h4).1 (N.fn.imp (K.fn x) fun h => by rw [K.sc]; exact lcl_of h) (io_of K h3 i (List.mem_singleton.mpr rfl)) (of_decide_eq_true h2)
    | _ => cases h
  | .ex q, st, h => by
    cases st with
    | Expr e p =>
      obtain ⟨h1, h2⟩ := and2 (show (mE m q e && noComp e) = true from h)
      exact sem_ex K.G (sE q K e h1).1 (sw_none h2 _)
    | _ => cases h
  | .ret q, st, h => by
    cases st with
    | Return o p =>
      cases o with
      | some e => exact sem_ret K.G (sE q K e h).1
      | none => cases h
    | _ => cases h
  | .retN, st, h => by
    cases st with
    | Return o p =>
      cases o with
      | some e => cases h
      | none => exact sem_retN
    | _ => cases h
  | .ite q a b, st, h => by
    cases st with
    | If t x y p =>
      obtain ⟨h1, h2, h3⟩ := and3 (show (mE m q t && mSs m a x && mSs m b y) = true from h)
      exact sem_ite2 K.G (sE q K t h1).2 (sSs K hp a x h2) (sSs K hp b y h3)
    | _ => cases h
  | .for_ g it body, st, h => by
    cases st with
    | For tg iter b els pos =>
      have h : (els.isEmpty && mP m g tg && mI m it iter && noSet iter && (!isPair it || isTp g) && mSs m body b) = true := h
      obtain ⟨h1, h4, h5⟩ := and3 h
      obtain ⟨h1, h2, h3⟩ := and3 h1
      obtain ⟨h0, h1⟩ := and2 h1
      have h0 : els = [] := by simpa using h0
      subst h0
      have hpr : isPair it = false ∨ ∃ ps, g = .tp ps := by
        rw [Bool.or_eq_true] at h4
        refine h4.imp (fun h => by simpa using h) fun h => ?_
        cases g with
        | nm i => cases h
        | tp ps => exact ⟨ps, rfl⟩
      exact sem_for K.G hp (sI it K iter h2 tg (pr_tup hpr h1)) (sP K g tg h1).1 (sSs K hp body b h5) (fset_of h3 X.env) (io_of K h1) hpr
    | _ => cases h
  | .whl q body, st, h => by
    cases st with
    | While t b els pos =>
      obtain ⟨h0, h1, h2⟩ := and3 (show (els.isEmpty && mE m q t && mSs m body b) = true from h)
      have h0 : els = [] := by simpa using h0
      subst h0
      exact sem_while K.G hp (sE q K t h1).2 (sSs K hp body b h2)
    | _ => cases h
  | .pass, st, h => by
    cases st with
    | Pass p => exact sem_pass
    | _ => cases h
  | .stk, st, h => ⟨fun pins s σ H D I h => by
    obtain ⟨en, fo, fs, F, hq⟩ := h
    exact (show False from hq).elim⟩
theorem sSs (K : Ctx X c cb W C m) (hp : PassesOwn (model X.prog X.w) X.A X.env X.xe) : ∀ (s : SL) (st : List Stmt), mSs m s st = true → PSsq X c W C WF st s
  | .nil, st, h => by
    cases st with
    | nil => exact sem_snil
    | cons a b => cases h
  | .cons q qs, st, h => by
    cases st with
    | nil => cases h
    | cons s ss =>
      obtain ⟨h1, h2⟩ := and2 (show (mS m q s && mSs m qs ss) = true from h)
      exact sem_scons (sS K hp q s h1) (sSs K hp qs ss h2)
end
end
end QQ
namespace QQ
open PySem L2 PyProof.Rows

/-- a def of the text: its name, its statement, its slots' names, its parameters, its form in the evaluator, the calls by keyword, whether it makes a lambda -/
structure DE where
  x : Str
  st : Stmt
  N : List Str
  ps : List Str
  F : FD
  kb : List KB := []
  lam : Bool := false
/-- a lambda: its parameter, what it captures, its body -/
structure LE where
  x : Str
  fr : List Str
  q : E
/-- the table: the defs, the module's constants, the lambdas -/
structure TB where
  fs : List DE
  gs : List (Str × D) := []
  ls : List LE := []
def tblOf (T : TB) : List DK := T.fs.map fun d => ⟨d.x, d.F.np, d.F.io, d.kb⟩
def LE.fd (L : LE) : FD := { np := 1 + L.fr.length, ns := 1 + L.fr.length, io := [], body := .cons (.ret L.q) .nil }
def lamMC (T : TB) (L : LE) (scope : Scope) : MC := { N := L.x :: L.fr, sc := scope, blk := some scope, defs := tblOf T, gls := T.gs.map (·.1) }
def argC (params : Arguments) (x : Str) : Bool := match params with
  | ⟨[], [a], none, [], [], none, []⟩ => decide (a.arg = x) && a.annotation.isNone
  | _ => false
def LE.chk (T : TB) (L : LE) (params : Arguments) (body : Expr) (scope : Scope) : Bool := argC params L.x && NdefX.nscB (L.x :: L.fr) [L.x] L.fr scope && mE (lamMC T L scope) L.q body && L.fr.all fun y => scope.names.contains (y, NameKind.free)
def lkOf (T : TB) (l : Nat) (params : Arguments) (body : Expr) (scope : Scope) : Bool := match T.ls[l]? with
  | some L => L.chk T params body scope
  | none => false
def frOf (T : TB) (l : Nat) : List Str := match T.ls[l]? with
  | some L => L.fr
  | none => []
def mcOf (T : TB) (d : DE) : MC := { N := d.N, sc := defScope d.st, ios := ioI 0 d.F.io, defs := tblOf T, gls := T.gs.map (·.1), lamOk := lkOf T, lamFr := frOf T, lamD := d.lam }
/-- the scope of a def without free names -/
def scC (N ps : List Str) (sc : Scope) : Bool := decide (sc.kind = .function) && !sc.isCoroutine && !sc.isGenerator && decide N.Nodup && decide (N.take ps.length = ps) && ps.all (fun x => locC sc x) && sc.names.all fun y => !decide (y.2 = .free)
theorem scC_of {N ps : List Str} {sc : Scope} (h : scC N ps sc = true) : FnScope N ps sc := by
  unfold scC at h
  simp only [Bool.and_eq_true, decide_eq_true_eq, Bool.not_eq_true', List.all_eq_true, decide_eq_false_iff_not] at h
  obtain ⟨⟨⟨⟨⟨⟨h1, h2⟩, h3⟩, h4⟩, h5⟩, h6⟩, h7⟩ := h
  exact ⟨h1, h2, h3, h4, h5, fun x hx => loc_of (h6 x hx), h7⟩
def DE.chk (T : TB) (d : DE) : Bool := scC d.N d.ps (defScope d.st) && decide (d.N.length = d.F.ns) && decide (d.F.np ≤ d.F.ns) && decide (d.F.io.length ≤ d.F.np) && decide (d.ps.length = d.F.np) && !(d.x == ("__debug__" : Str)) && mSs (mcOf T d) d.F.body (defBody d.st)
theorem ioV_ioI : ∀ (ns : List Nat) (vs : List V) (i : Nat), ∀ p ∈ ioV i ns vs, p.1 ∈ ioI i ns
  | [], vs, i, p, h => by simp [ioV] at h
  | 0 :: ns, [], i, p, h => by simp [ioV] at h
  | (n + 1) :: ns, [], i, p, h => by simp [ioV] at h
  | 0 :: ns, v :: vs, i, p, h => by
    have h : p ∈ ioV (i + 1) ns vs := by simpa [ioV] using h
    exact ioV_ioI ns vs (i + 1) p h
  | (n + 1) :: ns, v :: vs, i, p, h => by
    have h : p = (i, v) ∨ p ∈ ioV (i + 1) ns vs := by simpa [ioV] using h
    rcases h with rfl | h
    · exact List.mem_cons_self ..
    · exact List.mem_cons_of_mem _ (ioV_ioI ns vs (i + 1) p h)
/-! ### lambdas in the heap -/
/-- the base of a table's contexts -/
def cbZ (K : PySem.W.Frag) (fa ca : Nat → Addr) (tb : List NdefX.NTab) : Cb where
  K := K
  fa := fa
  ca := ca
  lamR := fun _ _ _ _ => False
  lamS := fun _ _ _ _ _ _ h => h
  tb := tb
  H0 := fun _ => none
  io := []
  ar := []
  iov := []
def lamRel (T : TB) (c : Cb) (H : Hp) (l : Nat) (vs : List D) (v : V) : Prop := ∃ (f c' : Addr) (q : Str) (cl : List (Str × Addr)) (pm ctv : Value) (params : Arguments) (body : Expr) (scope : Scope), v = .ref f ∧ lkOf T l params body scope = true ∧ H f = some (ExO f (lamObj q params body scope cl pm c' ctv)) ∧
  H c' = some (LamX.CodeO c' q) ∧ Caps c H cl (frOf T l) vs ∧ (∀ y ci, cl.lookup y = some ci → y ∈ frOf T l) ∧ ∀ x y ci, cl.lookup x = some ci → cl.lookup y = some ci → x = y
theorem Caps.stab {c : Cb} {H H' : Hp} {cl : List (Str × Addr)} (k : ∀ a x, H a = some x → fixO x = true → H' a = some x) : ∀ (fr : List Str) (vs : List D), Caps c H cl fr vs → Caps c H' cl fr vs
  | [], _, h => h
  | y :: fr, vs, ⟨d, ds, ci, oc, u, w, e, h1, h2, h3, h4, h5, h6, h7⟩ => ⟨d, ds, ci, oc, u, w, e, h1, k _ _ h2 rfl, h3, h4, h5, RO.stabN d 0 w [] [] (nl_of_lf d h5) h6 (fun a x ea q => by
      rcases q with ⟨xs, rfl⟩ | ⟨o, z, rfl⟩ | q
      · exact k _ _ ea rfl
      · exact k _ _ ea rfl
      · cases q), Caps.stab k fr ds h7⟩
theorem Caps.bare {c : Cb} {H : Hp} {cl : List (Str × Addr)} : ∀ (fr : List Str) (vs : List D), Caps c H cl fr vs → Caps c.noLam H cl fr vs
  | [], _, h => h
  | y :: fr, vs, ⟨d, ds, ci, oc, u, w, e, h1, h2, h3, h4, h5, h6, h7⟩ => ⟨d, ds, ci, oc, u, w, e, h1, h2, h3, h4, h5, h6, Caps.bare fr ds h7⟩
theorem Caps.len {c : Cb} {H : Hp} {cl : List (Str × Addr)} : ∀ (fr : List Str) (vs : List D), Caps c H cl fr vs → vs.length = fr.length
  | [], _, h => by rw [show _ = [] from h]; rfl
  | y :: fr, vs, ⟨d, ds, ci, oc, u, w, e, h1, h2, h3, h4, h5, h6, h7⟩ => by rw [e, List.length_cons, List.length_cons, Caps.len fr ds h7]
def cbL (T : TB) (K : PySem.W.Frag) (fa ca : Nat → Addr) (tb : List NdefX.NTab) : Cb := { cbZ K fa ca tb with
  lamR := lamRel T (cbZ K fa ca tb)
  lamS := fun H H' k l vs v ⟨f, c', q, cl, pm, ctv, params, body, scope, h1, h2, h3, h4, h5, h6, h7⟩ => ⟨f, c', q, cl, pm, ctv, params, body, scope, h1, h2, k _ _ h3 rfl, k _ _ h4 rfl, h5.stab k _ _, h6, h7⟩ }
/-! ### what is known at a depth of calls -/
/-- what the written part tells of a def -/
def KOk (K : PySem.W.Frag) (mg : Str → Option Value) (base : Heap) (tb : List NdefX.NTab) (d : DE) : Prop := ∃ f fd, L2.Fun K d.x d.x d.st f fd ∧ Binds K fd d.ps [] ∧ KbOk K fd d.ps d.kb ∧ mg d.x = some (.ref f) ∧
  (d.lam = true → ∃ c P, fd.code = .ref c ∧ LamX.TabB base mg c P ∧ (P, fun _ _ => d.x ++ ".<locals>." ++ "<lambda>") ∈ tb ∧ ∀ t, t ∈ tb → t.1 = P → t.2 = fun _ _ => d.x ++ ".<locals>." ++ "<lambda>")
def GOk (mg : Str → Option Value) (p : Str × D) : Prop := ∃ v u, constD p.2 = some v ∧ mg p.1 = some u ∧ L2.RelV v u
abbrev prgOf (T : TB) : Prg := { fs := T.fs.map (·.F), ls := T.ls.map LE.fd, gs := T.gs.map (·.2) }
/-- what stands fixed -/
structure Fix (K : PySem.W.Frag) (mg : Str → Option Value) (base : Heap) (T : TB) (cb : Cb) : Prop where
  hK : cb.K = K
  chk : T.fs.all (DE.chk T) = true
  ok : ∀ d ∈ T.fs, KOk K mg base cb.tb d
  gok : ∀ p ∈ T.gs, GOk mg p
  blt : ∀ x, x ∈ bltins → mg x = none
  fa : ∀ (i : Nat) d, T.fs[i]? = some d → mg d.x = some (.ref (cb.fa i))
  lam : cb.lamR = lamRel T cb.noLam
def FnsOk (P : Program) (w : World) (K : PySem.W.Frag) (mg : Str → Option Value) (base : Heap) (cb : Cb) (T : TB) (WF n : Nat) : Prop :=
  ∀ (i : Nat) (d : DE), T.fs[i]? = some d → ∃ f fd, FnOk P w K mg base (L2.CX P w) n f fd d.ps (spD cb d.F.np d.F.io ((orc (prgOf T) WF n).fn i)) ∧ mg d.x = some (.ref f) ∧ PySem.W.keepIn K (.ref f) = true ∧ Binds K fd d.ps [] ∧ KbOk K fd d.ps d.kb
structure Lv (P : Program) (w : World) (K : PySem.W.Frag) (mg : Str → Option Value) (base : Heap) (cb : Cb) (T : TB) (WF n : Nat) : Prop where
  fns : FnsOk P w K mg base cb T WF n
  lam : LamFn P w K mg base n cb (orc (prgOf T) WF n).lam
section
variable {cb : Cb} {T : TB} {WF n : Nat} {X : Cx}
theorem chk_dbg (F : Fix X.K X.mg X.base T cb) {d : DE} (hd : d ∈ T.fs) : (d.x == ("__debug__" : Str)) = false := by
  have hc := List.all_eq_true.mp F.chk d hd
  unfold DE.chk at hc
  simp only [Bool.and_eq_true, decide_eq_true_eq] at hc
  simpa using hc.1.2
theorem lv_df (F : Fix X.K X.mg X.base T cb) (V : Lv X.prog X.w X.K X.mg X.base cb T WF n) (hr : Room n X.A) (f : Nat) (dk : DK) (h : (tblOf T)[f]? = some dk) : DefOk X cb dk.x dk.np dk.io dk.kb ((orc (prgOf T) WF n).fn f) := by
  have h : (T.fs.map fun d => (⟨d.x, d.F.np, d.F.io, d.kb⟩ : DK))[f]? = some dk := h
  rw [List.getElem?_map] at h
  cases hd : T.fs[f]? with
  | none => rw [hd] at h; cases h
  | some d =>
    rw [hd] at h
    cases h
    obtain ⟨f2, fd2, a1, a2, a3, a4, a5⟩ := V.fns f d hd
    exact ⟨n, f2, fd2, d.ps, a1, hr, a2, a3, a4, a5, chk_dbg F (List.mem_of_getElem? hd)⟩
theorem lv_fa (F : Fix X.K X.mg X.base T cb) (f : Nat) (dk : DK) (h : (tblOf T)[f]? = some dk) : X.mg dk.x = some (.ref (cb.fa f)) := by
  have h : (T.fs.map fun d => (⟨d.x, d.F.np, d.F.io, d.kb⟩ : DK))[f]? = some dk := h
  rw [List.getElem?_map] at h
  cases hd : T.fs[f]? with
  | none => rw [hd] at h; cases h
  | some d =>
    rw [hd] at h
    cases h
    exact F.fa f d hd
theorem lv_gl (F : Fix X.K X.mg X.base T cb) (g : Nat) (x : Str) (h : (T.gs.map (·.1))[g]? = some x) : ∃ d v u, (orc (prgOf T) WF n).gl g = some d ∧ constD d = some v ∧ X.mg x = some u ∧ L2.RelV v u := by
  rw [List.getElem?_map] at h
  cases hd : T.gs[g]? with
  | none => rw [hd] at h; cases h
  | some p =>
    rw [hd] at h
    cases h
    obtain ⟨v, u, g1, g2, g3⟩ := F.gok p (List.mem_of_getElem? hd)
    have e : (orc (prgOf T) WF n).gl g = some p.2 := by
      cases n <;> (show (T.gs.map (·.2))[g]? = some p.2; rw [List.getElem?_map, hd]; rfl)
    exact ⟨p.2, v, u, e, g1, g2, g3⟩
theorem runD_len {C : Orc} {W : Nat} {G : FD} {ds : List D} (h : ds.length ≠ G.np) : runD C W G ds = .stuck := if_neg h
theorem lv_fv (F : Fix X.K X.mg X.base T cb) (V : Lv X.prog X.w X.K X.mg X.base cb T WF n) (hr : Room n X.A) : FvOk X cb (orc (prgOf T) WF n) where
  lam := ⟨n, V.lam, hr⟩
  fn := fun f co h => by
    cases n with
    | zero => cases h
    | succ n =>
      have h : (match (T.fs.map (·.F))[f]? with
        | some G => if G.io.isEmpty then some (runD (orc (prgOf T) WF n) WF G) else none
        | none => none) = some co := h
      rw [List.getElem?_map] at h
      cases hd : T.fs[f]? with
      | none => rw [hd] at h; cases h
      | some d =>
        rw [hd] at h
        have h : (if d.F.io.isEmpty then some (runD (orc (prgOf T) WF n) WF d.F) else none) = some co := h
        split at h
        · rename_i hio
          have hio : d.F.io = [] := by simpa using hio
          cases h
          have D := lv_df F V hr f ⟨d.x, d.F.np, d.F.io, d.kb⟩ (by
            show (T.fs.map fun d => (⟨d.x, d.F.np, d.F.io, d.kb⟩ : DK))[f]? = _
            rw [List.getElem?_map, hd]; rfl)
          have e : (orc (prgOf T) WF (n + 1)).fn f = runD (orc (prgOf T) WF n) WF d.F := by
            funext ds
            show (match (T.fs.map (·.F))[f]? with
              | some F => runD (orc (prgOf T) WF n) WF F ds
              | none => .stuck) = _
            rw [List.getElem?_map, hd]; rfl
          have D : DefOk X cb d.x d.F.np d.F.io d.kb ((orc (prgOf T) WF (n + 1)).fn f) := D
          rw [e, hio] at D
          exact ⟨d.F.np, d.kb, d.x, D, F.fa f d hd, fun ds hl => runD_len hl⟩
        · cases h
theorem lk_facts {l : Nat} {params : Arguments} {body : Expr} {scope : Scope} (h : lkOf T l params body scope = true) : ∃ L, T.ls[l]? = some L ∧ frOf T l = L.fr ∧ argC params L.x = true ∧ NdefX.NScope (L.x :: L.fr) [L.x] L.fr scope ∧ mE (lamMC T L scope) L.q body = true ∧ ∀ y, y ∈ L.fr → (y, NameKind.free) ∈ scope.names := by
  unfold lkOf at h
  cases hl : T.ls[l]? with
  | none => rw [hl] at h; cases h
  | some L =>
    rw [hl] at h
    have h : (argC params L.x && NdefX.nscB (L.x :: L.fr) [L.x] L.fr scope && mE (lamMC T L scope) L.q body && L.fr.all fun y => scope.names.contains (y, NameKind.free)) = true := h
    obtain ⟨h1, h3, h4⟩ := and3 h
    obtain ⟨h1, h2⟩ := and2 h1
    exact ⟨L, rfl, by unfold frOf; rw [hl], h1, NdefX.nscope_by h2, h3, fun y hy => by simpa using List.all_eq_true.mp h4 y hy⟩
theorem argC_of {params : Arguments} {x : Str} (h : argC params x = true) : ∃ p, params = ⟨[], [⟨x, none, p⟩], none, [], [], none, []⟩ := by
  unfold argC at h
  split at h
  · rename_i a
    obtain ⟨h1, h2⟩ := and2 h
    obtain ⟨ar, an, p⟩ := a
    have h1 : ar = x := of_decide_eq_true h1
    have h2 : an = none := by simpa using h2
    subst h1 h2
    exact ⟨p, rfl⟩
  · cases h
theorem lv_lm (F : Fix X.K X.mg X.base T cb) : LmOk X cb (lkOf T) (frOf T) where
  make := fun l params body scope ok H f c' q cl pm ctv vs h1 h2 h3 h4 h5 => by
    rw [F.lam]
    exact ⟨f, c', q, cl, pm, ctv, params, body, scope, rfl, ok, h1, h2, h3.bare _ _, h4, h5⟩
  df := fun l params body scope ok env => by
    obtain ⟨L, _, _, h, _⟩ := lk_facts ok
    obtain ⟨p, rfl⟩ := argC_of h
    rfl
  fr1 := fun l params body scope ok y hy => by
    obtain ⟨L, _, e, _, _, _, h⟩ := lk_facts ok
    rw [e] at hy
    exact h y hy
  fr2 := fun l params body scope ok y hy hk => by
    obtain ⟨L, _, e, _, S, _⟩ := lk_facts ok
    rw [e]
    exact S.free y hy hk
end
/-! ### a lambda keeps what the evaluator says -/
section
variable {P : Program} {w : World} {K : PySem.W.Frag} {mg : Str → Option Value} {base : Heap} {cb : Cb} {T : TB} {WF n : Nat}
theorem caps_cells {c : Cb} {H : Hp} {cl : List (Str × Addr)} : ∀ (fr : List Str) (vs : List D), Caps c H cl fr vs → ∀ y, y ∈ fr → ∃ ci oc v, cl.lookup y = some ci ∧ H ci = some (ExO ci oc) ∧ oc.data = .cell v
  | [], _, _, y, hy => by cases hy
  | z :: fr, vs, ⟨d, ds, ci, oc, u, w, e, h1, h2, h3, h4, h5, h6, h7⟩, y, hy => by
    rcases List.mem_cons.mp hy with rfl | hy
    · exact ⟨ci, oc, some u, h1, h2, h3⟩
    · exact caps_cells fr ds h7 y hy
/-- the captured values, behind the parameters -/
theorem caps_roa {c c2 : Cb} (hK : c.noLam.K = c2.K) {H H' : Hp} {cl : List (Str × Addr)} {h : Heap} {P : Program} {w : World} (hok : HOk P w H h) (k : ∀ a x, H a = some x → (∃ xs, x = .tup xs) ∨ (∃ o u, x = .frz o u) → H' a = some x) : ∀ (fr : List Str) (vs : List D), Caps c H cl fr vs → ∃ ws : List V, ws.length = fr.length ∧ (∃ PP, ROa c2 H' [] vs ws PP ∧ ∀ p, p ∈ PP → p.1 = []) ∧
    ∀ (i : Nat) (y : Str), fr[i]? = some y → ∃ ci, cl.lookup y = some ci ∧ ∀ v, (ws.map some)[i]? = some (some v) → ∃ u, L2.RelV v u ∧ h.IsCell ci (some u)
  | [], vs, h => ⟨[], rfl, ⟨[], by rw [show vs = [] from h]; exact ⟨rfl, rfl⟩, fun p hp => by cases hp⟩, fun i y hy => by cases hy⟩
  | z :: fr, vs, ⟨d, ds, ci, oc, u, w, e, h1, h2, h3, h4, h5, h6, h7⟩ => by
    obtain ⟨ws, l1, ⟨PP, r1, e1⟩, c1⟩ := caps_roa hK hok k fr ds h7
    have rd : RO c2 H' d 0 w [] [] := RO.stabN d 0 w [] [] (nl_of_lf d h5) (RO.lfTo (c := c.noLam) (c' := c2) hK d 0 w [] [] h5 h6) fun a x ea q => k a x ea (q.imp id fun q => q.elim id fun q => by cases q)
    refine ⟨w :: ws, by rw [List.length_cons, List.length_cons, l1], ⟨([], []) :: PP, by rw [e]; exact ⟨w, ws, ([], []), PP, rfl, rfl, rd, r1⟩, fun p hp => ?_⟩, fun i y hy => ?_⟩
    · rcases List.mem_cons.mp hp with hp | hp
      · rw [hp]
      · exact e1 p hp
    · cases i with
      | zero =>
        cases hy
        exact ⟨ci, h1, fun v hv => by cases hv; exact ⟨u, h4, oc, exO_at hok h2, h3⟩⟩
      | succ i => exact c1 i y hy
/-- a body that gives a value back -/
theorem ret_read {c : Cb} {W : WX} {C : Orc} {WF : Nat} {q : E} {DE : Ends} {σ : L2.St} {H : Hp} (h : tSt c W (muSs (.cons (.ret q) .nil)) (exs C WF (.cons (.ret q) .nil)) DE σ H) : tE c W (muE q) (ev C q) σ H DE.rt := by
  obtain ⟨en, fo, fs, F, hr⟩ := h
  have hr : ResS c W (KS c (muE q ++ []) en H fo fs DE) ((ev C q en).bind fun r e1 => match keepK r with
      | some n => .ok (.rt r.1 n) e1
      | none => .stuck) := by
    have hr : ResS c W (KS c (muE q ++ []) en H fo fs DE) (fls ((ev C q en).bind fun r e1 => match keepK r with
      | some n => .ok (.rt r.1 n) e1
      | none => .stuck) fun e1 => .ok .nx e1) := hr
    cases hq : ev C q en with
    | stuck => rw [hq] at hr; exact hr
    | exc x e => rw [hq] at hr; exact hr
    | ok r e1 =>
      rw [hq] at hr
      rw [Out.bind_ok] at hr ⊢
      cases hk : keepK r with
      | none => rw [hk] at hr; exact hr
      | some m => rw [hk] at hr; exact hr
  have hr := by rw [List.append_nil] at hr; exact hr
  refine tE_seqS F hr fun r e1 hx v H1 fo1 fs1 o s F1 st1 tx nx => ?_
  split at hx
  · rename_i n hk
    obtain ⟨o1, s1, w1, nw1, _, _⟩ := tx.kept nx hk
    exact hx v σ H1 fo1 fs1 o1 s1 F1 st1 w1 nw1
  · exact hx.elim
theorem roa_app {c : Cb} {H : Hp} : ∀ {ds es : List D} {vs ws : List V} {PP QQ : PA}, ROa c H [] ds vs PP → ROa c H [] es ws QQ → ROa c H [] (ds ++ es) (vs ++ ws) (PP ++ QQ)
  | [], _, _, _, _, _, ⟨rfl, rfl⟩, r => r
  | d :: ds, _, _, _, _, _, ⟨v, vs', p, P', rfl, rfl, r1, t⟩, r => ⟨v, _, p, _, rfl, rfl, r1, roa_app t r⟩
theorem startF_eq {N : List Str} {vs ws : List V} : NdefX.startF N vs (ws.map some) = L2.start N (vs ++ ws) := by
  unfold NdefX.startF L2.start
  rw [List.map_append, List.length_map, List.length_append, List.append_assoc, Nat.sub_sub]
theorem cx_none {outer : List Env} {H : Hp} {s : Shared} {e : Value} {s' : Shared} (h : L2.CX P w outer H s (fun _ _ _ => False) e s') : False := by
  obtain ⟨_, _, _, _, _, _, _, _, _, _, _, _, z⟩ := h
  exact z
theorem bind_one {x q : Str} {p0 : Pos} {body : Expr} {scope : Scope} {cl : List (Str × Addr)} {pm cv ctv u : Value} :
    bindArgs (PySem.W.kla_fn "<lambda>" q ⟨[], [⟨x, none, p0⟩], none, [], [], none, []⟩ body scope cl pm cv ctv) ⟨[u], []⟩ = pure [(x, u)] := by
  unfold bindArgs
  simp only [seqItems?, List.map_cons, List.map_nil, List.nil_append, List.zip_cons_cons, List.zip_nil_right, List.length_cons, List.length_nil, pure_bind]
  simp [List.lookup]
  rfl
theorem roa_minus {c : Cb} {H : Hp} {L : List Addr} (hL : ∀ b, b ∈ L → ∃ o, H b = some (ExO b o)) : ∀ {ds : List D} {xs : List V} {PP : PA}, nls ds = true → ROa c H [] ds xs PP → ROa c (minus H L) [] ds xs PP
  | [], _, _, _, h => h
  | d :: ds, _, _, hn, ⟨v, vs', p, P', rfl, rfl, r, t⟩ => by
    have hn : (nl d && nls ds) = true := hn
    rw [Bool.and_eq_true] at hn
    refine ⟨v, vs', p, P', rfl, rfl, RO.stabN d 0 v p.1 p.2 hn.1 r fun a x ea q => ?_, roa_minus hL hn.2 t⟩
    rw [minus_out fun z => ?_]; exact ea
    obtain ⟨o, ho⟩ := hL a z
    rw [ea] at ho
    have ex := Option.some.inj ho
    rcases q with ⟨ys, e⟩ | ⟨o', u, e⟩ | q
    · rw [e] at ex; exact exO_tup ex.symm
    · rw [e] at ex; exact exO_frz ex.symm
    · have A := RO.at d 0 v p.1 p.2 r
      rcases List.mem_append.mp q with q | q
      · obtain ⟨ys, e⟩ := A.1 a q
        rw [ea] at e; rw [Option.some.inj e] at ex; exact exO_lst ex.symm
      · obtain ⟨y, e, nf, _⟩ := A.2 a q
        rw [ea] at e; rw [← Option.some.inj e, ex] at nf; cases nf
theorem lam_run (F : Fix K mg base T cb) (Vn : Lv P w K mg base cb T WF n) : LamFn P w K mg base (n + 1) cb (orc (prgOf T) WF (n + 1)).lam where
  ref := fun H l vs v h => by
    rw [F.lam] at h
    obtain ⟨f, _, _, _, _, _, _, _, _, e, _⟩ := h
    exact ⟨f, e⟩
  at_ := fun H h l vs f hok hl => by
    rw [F.lam] at hl
    obtain ⟨f', c', q, cl, pm, ctv, params, body, scope, e, _, h3, _⟩ := hl
    cases e
    exact ⟨_, _, _, _, exO_at hok h3⟩
  run := fun A outer s H l vs f us xs Q E hr e0 hl r hsp => by
    rw [F.lam] at hl
    obtain ⟨f', c', q, cl, pm, ctv, params, body, scope, e, ok, h3, h4, caps, hfr, hinj⟩ := hl
    cases e
    obtain ⟨L, hLs, hfe, hargs, S, hbody, hfree⟩ := lk_facts ok
    obtain ⟨p0, rfl⟩ := argC_of hargs
    rw [hfe] at caps hfr
    have of1 := exO_at e0.hok h3
    obtain ⟨_, ds, PP, ro, ap, tb0, pm0⟩ := hsp
    have eco : (orc (prgOf T) WF (n + 1)).lam l vs ds = if nls ds then lamOut (runD (orc (prgOf T) WF n) WF L.fd (ds ++ vs)) else .stuck := by
      show (match (T.ls.map LE.fd)[l]? with
        | some F => if nls ds then lamOut (runD (orc (prgOf T) WF n) WF F (ds ++ vs)) else .stuck
        | none => .stuck) = _
      rw [List.getElem?_map, hLs]; rfl
    have pm0 : Prm cb H PP [] xs Q E ((orc (prgOf T) WF (n + 1)).lam l vs ds) := pm0
    rw [eco] at pm0
    split at pm0
    · rename_i hnl
      cases hrun : runD (orc (prgOf T) WF n) WF L.fd (ds ++ vs) with
      | stuck => rw [hrun] at pm0; exact pm0.elim
      | exc y ios => rw [hrun] at pm0; exact pm0.elim
      | ret d kd ios =>
        rw [hrun] at pm0
        have pm0 : Prm cb H PP [] xs Q E (if lf d then .ret d 0 [] else .stuck) := pm0
        split at pm0
        · rename_i hld
          have hdl : (ds ++ vs).length = L.fd.np := by
            by_cases z : (ds ++ vs).length = L.fd.np
            · exact z
            · rw [runD_len z] at hrun; cases hrun
          have hvl := caps.len _ _
          have hxl : xs.length = 1 := by
            rw [← ro.len.1]
            rw [List.length_append, hvl] at hdl
            have hdl : ds.length + L.fr.length = 1 + L.fr.length := hdl
            omega
          -- the cells that are hidden
          obtain ⟨Lc, hLc⟩ : ∃ Lc, Lc = L.fr.filterMap fun y => cl.lookup y := ⟨_, rfl⟩
          have cellL : ∀ b, b ∈ Lc → ∃ o v, H b = some (ExO b o) ∧ s.heap.get? b = some o ∧ o.data = .cell v := fun b hb => by
            rw [hLc] at hb
            obtain ⟨y, hy, e⟩ := List.mem_filterMap.mp hb
            obtain ⟨ci, oc, v, h1, h2, h3⟩ := caps_cells _ _ caps y hy
            rw [e] at h1
            cases h1
            exact ⟨oc, v, h2, exO_at e0.hok h2, h3⟩
          have hLk : ∀ b, b ∈ Lc → ∃ o, H b = some (ExO b o) := fun b hb => let ⟨o, _, h, _⟩ := cellL b hb; ⟨o, h⟩
          have e0' := env0_minus e0 hLk
          have keepT : ∀ a x, H a = some x → (∃ xs, x = .tup xs) ∨ (∃ o u, x = .frz o u) → minus H Lc a = some x := fun a x ea q => by
            rw [minus_out fun z => ?_]; exact ea
            obtain ⟨o, ho⟩ := hLk a z
            rw [ea] at ho
            rcases q with ⟨ys, rfl⟩ | ⟨o', u, rfl⟩
            · exact exO_tup (Option.some.inj ho).symm
            · exact exO_frz (Option.some.inj ho).symm
          obtain ⟨ws, hwl, ⟨PPw, row, hew⟩, hcel⟩ := caps_roa (c := cb.noLam) (c2 := cb) rfl e0.hok keepT L.fr vs caps
          have C : NdefX.CellsAt cl L.fr (ws.map some) s.heap (minus H Lc) := {
            len := by rw [List.length_map]; exact hwl
            all := fun y ci e => by
              have hy := hfr y ci e
              have hm : ci ∈ Lc := by rw [hLc]; exact List.mem_filterMap.mpr ⟨y, hy, e⟩
              obtain ⟨o, v, _, h2, h3⟩ := cellL ci hm
              exact ⟨minus_in hm, v, o, h2, h3⟩
            inj := hinj
            has := hcel }
          have roH : ∀ {ds : List D} {xs : List V} {PP : PA}, nls ds = true → ROa cb H [] ds xs PP → ROa cb (minus H Lc) [] ds xs PP := fun {ds xs PP} => roa_minus hLk
          have roF := roa_app (roH hnl ro) row
          have hPe : ∀ p, p ∈ PP ++ PPw → p.1 = [] := fun p hp => (List.mem_append.mp hp).elim (ROa0.empty ro p) (hew p)
          have tbm := tabs_minus tb0 e0.hok cellL
          obtain ⟨Q2, hQ2⟩ : ∃ Q2 : VK, Q2 = fun v H' => ∃ o s9 PB, Back cb (minus H Lc) (pO (PP ++ PPw)) (pS (PP ++ PPw)) H' [] (xs ++ ws) ios PB ∧ Ret cb (minus H Lc) (pO (PP ++ PPw)) (pS (PP ++ PPw)) H' PB d kd v o s9 := ⟨_, rfl⟩
          have hxs : (xs ++ ws).length = L.fd.np := by rw [List.length_append, hxl, hwl]; rfl
          have hst := body_ok (c := cb) (C := orc (prgOf T) WF n) (WF := WF) (F := L.fd) (N := L.x :: L.fr) (vs := xs ++ ws) (H := minus H Lc) (Q := Q2) (E := fun _ _ _ => False) (ds := ds ++ vs) (P := PP ++ PPw) (show L.fr.length + 1 = 1 + L.fr.length from Nat.add_comm _ _) (Nat.le_refl _) (Nat.zero_le _) hxs roF (apart_empty hPe) tbm (by
            rw [hrun, hQ2]
            exact fun v o s PB H' b rt => ⟨o, s, PB, b, rt⟩)
          have hread := ret_read (W := Wf) (q := L.q) hst
          have lim : s.heap.NoLimit := e0.mod.nolimit.keeps fun b o e => (e0.bs b o e).1
          obtain ⟨NF, hNF⟩ : ∃ NF : NdefX.NF, NF = ⟨"<lambda>", q, ⟨[], [⟨L.x, none, p0⟩], none, [], [], none, []⟩, [], scope, cl, c'⟩ := ⟨_, rfl⟩
          match xs, us, hxl, r with
          | [x0], [u0], _, r =>
            refine PySem.W.kla_callFunE hr.depth of1 rfl S.co S.gen rfl (NdefX.codeO_at e0.hok h4) ?_
            refine wpAny_of_eq (a := [(L.x, u0)]) bind_one ?_
            refine wpAny_newFunctionEnv S.nocell (fun y hy => by rw [List.mem_singleton.mp hy]; exact S.par _ (List.mem_singleton.mpr rfl)) (fun h1 hns hsb => ⟨lim.fresh _ hsb, ?_⟩) S.kind
            have kp : ∀ b o, s.heap.get? b = some o → h1.get? b = some o := fun b o e => hsb.extBut b o (Nat.ne_of_lt (Heap.lt_size e)) (Heap.get?_push_of_some _ e)
            have J : Inv (NdefX.ncx (L2.CX P w) P w K mg base (L.x :: L.fr) NF f A outer s (minus H Lc) (fun _ _ _ => False)) [] (NdefX.startF (L.x :: L.fr) [x0] (ws.map some)) (minus H Lc) { s with heap := h1, toks := s.toks + [(L.x, u0)].length } := by
              refine NdefX.inv_startN (ps := [L.x]) (fr := L.fr) (us := [u0]) ?_ hr.hd e0' rfl r ?_ hns kp
              · rw [hNF]; exact S
              · rw [hNF]; exact C
            rw [startF_eq] at J
            have KC : Ctx (NdefX.ncx (L2.CX P w) P w K mg base (L.x :: L.fr) NF f A outer s (minus H Lc) (fun _ _ _ => False)) (cb.enter (minus H Lc) L.fd.io ([x0] ++ ws) (PP ++ PPw)) cb Wf (orc (prgOf T) WF n) (lamMC T L scope) := {
              G := ⟨F.hK.symm, by have := (hr.deeper (NdefX.envF NF f s.heap.objs.size)).un; show (A.deeper (NdefX.envF NF f s.heap.objs.size)).units + 80 < cLine; omega, rfl, S.nd, takes0⟩
              S := Cb.leave cb (minus H Lc) L.fd.io ([x0] ++ ws) (PP ++ PPw)
              tb := rfl
              hN := rfl
              sc := by rw [hNF]; rfl
              fn := fun x hx => by
                have hx : (scope.names.lookup x == some NameKind.cell) = true := hx
                exact absurd rfl (S.nocell _ (PySem.mem_of_lookup (by simpa using hx)))
              bl := F.blt
              df := fun f d h => lv_df F Vn (hr.deeper _) f d h
              gl := fun g x h => lv_gl F g x h
              io := fun i _ p hp => by cases hp
              fv := lv_fv F Vn (hr.deeper _)
              fa := fun f d h => lv_fa F f d h
              lm := ⟨(fun _ _ _ _ h => absurd h Bool.false_ne_true), (fun _ _ _ _ h => absurd h Bool.false_ne_true), (fun _ _ _ _ h => absurd h Bool.false_ne_true), (fun _ _ _ _ h => absurd h Bool.false_ne_true)⟩
              tab := fun h => absurd h Bool.false_ne_true }
            have fin := (sE L.q KC body hbody).1.run [] _ _ _ _ J hread
            subst hNF
            refine PySem.W.kla_codeExpr ?_
            refine wpAny_mono fin (fun v s' hq => ?_) fun e s' hq => ?_
            · obtain ⟨v', H', J', rv, q2⟩ := hq
              refine ce_minus e0 hLk ⟨v', H', J'.os, J'.bare, J'.base, J'.hok, rv, q2⟩ fun v H' gone hq2 => ?_
              rw [hQ2] at hq2
              obtain ⟨o, s9, PB, b, rt⟩ := hq2
              have rm : RO cb (plus H' H Lc) d 0 v [] [] := RO.stabN d 0 v [] [] (nl_of_lf d hld) (RO.lf d kd 0 v o s9 hld rt.ro).2.2 fun a z ea q => by
                rw [plus_out fun y => ?_]; exact ea
                rw [gone a y] at ea; cases ea
              refine pm0 v [] [] [] (plus H' H Lc) ⟨⟨fun a z ea na nt => ?_, fun a ea => ?_, tabs_plus b.aft.tb gone⟩, True.intro, apart_empty (fun p hp => by cases hp), fun a ha => absurd ha (pO_empty (fun p hp => by cases hp) a)⟩ ⟨rm, List.nodup_nil, (fun a ha => by cases ha), (fun a ha => by cases ha), (fun a ha => by cases ha), (fun a ha => by cases ha), (fun a ha => by cases ha)⟩
              · by_cases ha : a ∈ Lc
                · rw [plus_in ha]; exact ea
                · rw [plus_out ha]
                  exact b.aft.keep a z (by rw [minus_out ha]; exact ea) (pO_empty hPe a) nt
              · by_cases ha : a ∈ Lc
                · rw [plus_in ha]; exact ea
                · rw [plus_out ha]
                  exact b.aft.dom a (by rw [minus_out ha]; exact ea)
            · exact wpAny_mono hq (fun _ _ z => (cx_none z).elim) fun _ _ z => (cx_none z).elim
        · exact pm0.elim
    · exact pm0.elim
theorem lam_zero (F : Fix K mg base T cb) : LamFn P w K mg base 0 cb (orc (prgOf T) WF 0).lam where
  ref := fun H l vs v h => by
    rw [F.lam] at h
    obtain ⟨f, _, _, _, _, _, _, _, _, e, _⟩ := h
    exact ⟨f, e⟩
  at_ := fun H h l vs f hok hl => by
    rw [F.lam] at hl
    obtain ⟨f', c', q, cl, pm, ctv, params, body, scope, e, _, h3, _⟩ := hl
    cases e
    exact ⟨_, _, _, _, exO_at hok h3⟩
  run := fun A outer s H l vs f us xs Q E hr e0 hl r hsp => by
    obtain ⟨_, ds, PP, _, _, _, pm⟩ := hsp
    exact (show False from pm).elim
theorem fn_run (F : Fix K mg base T cb) (Vn : Lv P w K mg base cb T WF n) {d : DE} (hd : d ∈ T.fs) {f : Addr} {fd : FuncData} (Fn : L2.Fun K d.x d.x d.st f fd)
    (hlam : d.lam = true → ∃ c PT, fd.code = .ref c ∧ LamX.TabB base mg c PT ∧ (PT, fun _ _ => d.x ++ ".<locals>." ++ "<lambda>") ∈ cb.tb ∧ ∀ t, t ∈ cb.tb → t.1 = PT → t.2 = fun _ _ => d.x ++ ".<locals>." ++ "<lambda>") :
    FnOk P w K mg base (L2.CX P w) (n + 1) f fd d.ps (spD cb d.F.np d.F.io (runD (orc (prgOf T) WF n) WF d.F)) := by
  have hc := List.all_eq_true.mp F.chk d hd
  unfold DE.chk at hc
  simp only [Bool.and_eq_true, decide_eq_true_eq] at hc
  obtain ⟨⟨⟨⟨⟨⟨h1, h2⟩, h3⟩, h4⟩, h5⟩, h6⟩, h7⟩ := hc
  have S := scC_of h1
  obtain ⟨oc, od, kV, doc, pm, an, cdv, ct, osl, rfl, lk, hcd⟩ := Fn.ex
  refine fn_of lk hcd S (fun vs H Q E h => h.1.trans h5.symm) fun A outer s H vs Q E hr h => ?_
  obtain ⟨hl, ds, PP, r, ap, tb, pm1⟩ := h
  have KC : Ctx (cxOf (L2.CX P w) P w K mg base d.N d.x (defScope d.st) f cdv A outer s H E) (cb.enter H d.F.io vs PP) cb (fun cls dd _ H => E cls dd H) (orc (prgOf T) WF n) (mcOf T d) := {
    G := ⟨F.hK.symm, by have := hr.un; show (A.deeper (envOfC d.x (defScope d.st) s.heap.objs.size f cdv)).units + 80 < cLine; omega, rfl, S.nd, takes_of (E₁ := fun e' s'' => L2.CX P w outer H s E e' s'') rfl rfl rfl rfl⟩
    S := Cb.leave cb H d.F.io vs PP
    tb := rfl
    hN := rfl
    sc := rfl
    fn := fun _ _ => rfl
    bl := F.blt
    df := fun f d h => lv_df F Vn hr f d h
    gl := fun g x h => lv_gl F g x h
    io := fun i hi p hp => fun e => by
      have := ioV_ioI d.F.io vs 0 p hp
      rw [e] at this
      have hi : (ioI 0 d.F.io).contains i = false := hi
      rw [List.contains_iff_mem.mpr this] at hi
      cases hi
    fv := lv_fv F Vn hr
    fa := fun f d h => lv_fa F f d h
    lm := lv_lm F
    tab := fun hl _ => by
      obtain ⟨c, PT, e1, e2, e3, e4⟩ := hlam hl
      exact ⟨⟨c, PT, e2, e1, e3, e4⟩, fun _ => rfl⟩ }
  exact ⟨_, sSs KC (passes_of rfl) d.F.body (defBody d.st) h7, body_ok (h2) h3 h4 hl r ap tb pm1⟩
theorem lv_all (F : Fix K mg base T cb) : ∀ n, Lv P w K mg base cb T WF n
  | 0 => ⟨fun i d hd => by
      obtain ⟨f, fd, Fn, B, KB, m, _⟩ := F.ok d (List.mem_of_getElem? hd)
      have hc := List.all_eq_true.mp F.chk d (List.mem_of_getElem? hd)
      unfold DE.chk at hc
      simp only [Bool.and_eq_true, decide_eq_true_eq] at hc
      refine ⟨f, fd, ⟨fun vs H Q E h => h.1.trans hc.1.1.2.symm, fun A outer s H args us vs Q E _ _ _ _ h => ?_⟩, m, Fn.kp, B, KB⟩
      obtain ⟨_, ds, PP, _, _, _, pm⟩ := h
      exact (show False from pm).elim, lam_zero F⟩
  | n + 1 => ⟨fun i d hd => by
      obtain ⟨f, fd, Fn, B, KB, m, hlam⟩ := F.ok d (List.mem_of_getElem? hd)
      refine ⟨f, fd, ?_, m, Fn.kp, B, KB⟩
      have key := fn_run F (lv_all F n) (List.mem_of_getElem? hd) Fn hlam
      have e : ((orc (prgOf T) WF (n + 1)).fn i) = runD (orc (prgOf T) WF n) WF d.F := by
        funext ds
        show (match (T.fs.map (·.F))[i]? with
          | some F => runD (orc (prgOf T) WF n) WF F ds
          | none => .stuck) = _
        rw [List.getElem?_map, hd]; rfl
      rw [e]; exact key, lam_run F (lv_all F n)⟩
end
/-! ### the law -/
/-- a law's promise -/
def spLaw (K : PySem.W.Frag) (tb : List NdefX.NTab) (m : Nat) : Sp := fun vs H Q _ => ∃ (a : Addr) (ns : List Int), vs = [.ref a] ∧ SqL K H a (ns.map V.int) ∧ ns.length ≤ m ∧ NdefX.TabsN tb H ∧ ∀ H', Q (.bl true) H'
/-- the same, of a script that is known to the object -/
def spLawZ (K : PySem.W.Frag) (tb : List NdefX.NTab) (m : Nat) : Sp := fun vs H Q _ => ∃ (a : Addr) (ns : List Int), vs = [.ref a] ∧ StL K H a (ns.map V.int) ∧ ns.length ≤ m ∧ NdefX.TabsN tb H ∧ ∀ H', Q (.bl true) H'
theorem law_sp {c : Cb} {m : Nat} {co : List D → CO} (hc : ∀ ns : List Int, ns.length ≤ m → co [scrD (ns.map PyData.int)] = .ret (.bool true) 0 []) {vs : List V} {H : Hp} {Q : VK} {E : XK} (h : spLawZ c.K c.tb m vs H Q E) : spD c 1 [] co vs H Q E := by
  obtain ⟨a, ns, rfl, hS, hl, hT, hQ⟩ := h
  refine ⟨rfl, [scrD (ns.map PyData.int)], [([], [])], ⟨.ref a, [], ([], []), [], rfl, rfl, ?_, rfl, rfl⟩, apart_empty (fun p hp => by rw [List.mem_singleton.mp hp]), hT, ?_⟩
  · exact ⟨rfl, rfl, a, ns, rfl, rfl, hS⟩
  · rw [hc ns hl]
    intro v o s PB H' _ r
    have := r.ro
    rw [RO] at this
    rw [this.1]
    exact hQ H'
section
variable {P : Program} {w : World} {K : PySem.W.Frag} {mg : Str → Option Value} {base : Heap}
theorem sqL_cases {H : Hp} {a : Addr} {xs : List V} (h : SqL K H a xs) : H a = some (.lst xs) ∨ StL K H a xs := by
  rcases h with (h | h) | h
  · exact .inl h
  · exact .inr (.inl h)
  · exact .inr (.inr h)
/-- a script that could be changed is read alone -/
theorem law_frz {k m : Nat} {f : Addr} {fd : FuncData} {ps : List Str} {tb : List NdefX.NTab} (F : FnOk P w K mg base (L2.CX P w) k f fd ps (spLawZ K tb m)) (hp : ps.length = 1) : FnOk P w K mg base (L2.CX P w) k f fd ps (spLaw K tb m) := by
  refine ⟨fun vs H Q E h => ?_, fun A outer s H args us vs Q E hr e0 hb r h => ?_⟩
  · obtain ⟨a, ns, rfl, _⟩ := h
    exact hp.symm
  · obtain ⟨a, ns, rfl, hS, hl, hT, hQ⟩ := h
    rcases sqL_cases hS with ha | hz
    · obtain ⟨hlen, its, n, rv, hg⟩ := e0.hok a _ ha
      obtain ⟨o, ho⟩ : ∃ o : Obj, o = { cls := .type "list", data := .seq its.toArray n } := ⟨_, rfl⟩
      rw [← ho] at hg
      have hne : ∀ b, H b = none → b ≠ a := fun b e z => by rw [z, ha] at e; cases e
      have e1 : Env0 P w K mg base A outer s (upd H a (.frz o (.lst (ns.map V.int)))) := {
        frames := e0.frames
        mod := e0.mod
        bs := fun b ob e => ⟨(e0.bs b ob e).1, by rw [upd_ne (hne b (e0.bs b ob e).2)]; exact (e0.bs b ob e).2⟩
        bsz := e0.bsz
        funs := e0.funs
        frf := fun b hb => by rw [upd_ne (hne b (e0.frf b hb))]; exact e0.frf b hb
        hok := fun b x e => by
          by_cases z : b = a
          · subst z
            rw [upd_same] at e
            cases e
            exact ⟨hg, hlen, its, n, rv, by rw [hg, ho]⟩
          · rw [upd_ne z] at e
            refine (e0.hok b x e).stay (fun _ _ _ q => q) (fun y hy => ?_) fun y xs hy => ?_
            · rw [upd_ne fun z => ?_]; exact hy
              rw [z, ha] at hy; cases hy
            · rw [upd_ne fun z => ?_]; exact hy
              rw [z, ha] at hy; cases hy
        bare := e0.bare }
      have hT1 : NdefX.TabsN tb (upd H a (.frz o (.lst (ns.map V.int)))) := fun t ht => by
        obtain ⟨pz, h1, h2, h3⟩ := hT t ht
        refine ⟨pz, ?_, h2, fun pos cv hc => ?_⟩
        · rw [upd_ne fun z => ?_]; exact h1
          rw [z, ha] at h1; cases h1
        · obtain ⟨c0, q1, q2⟩ := h3 pos cv hc
          refine ⟨c0, q1, ?_⟩
          rw [upd_ne fun z => ?_]; exact q2
          rw [z, ha] at q2; cases q2
      refine codeAny_mono (F.run A outer s _ args us [.ref a] Q (fun _ _ _ => False) hr e1 hb r ⟨a, ns, rfl, .inl ⟨o, upd_same⟩, hl, hT1, hQ⟩) fun rr s' hq => ?_
      cases rr with
      | error e => exact (cx_none hq).elim
      | ok fl =>
        cases fl with
        | ret u =>
          obtain ⟨v, H', os, bare, un, hok, rv2, q⟩ := hq
          have same : ∀ b x, H b = some x → (∀ xs, x ≠ .lst xs) → upd H a (.frz o (.lst (ns.map V.int))) b = some x := fun b x e nx => by
            rw [upd_ne fun z => ?_]; exact e
            rw [z, ha] at e; cases e; exact nx _ rfl
          exact ⟨v, H', os, bare, ⟨fun b ob e nn hf hx => un.keep b ob e (by rw [upd_ne (hne b nn)]; exact nn) hf hx, fun b ob e nn hf hx => un.slot b ob e (by rw [upd_ne (hne b nn)]; exact nn) hf hx, fun b ob e nn hx => un.free b ob e (by rw [upd_ne (hne b nn)]; exact nn) hx,
            un.there, fun b xs e => un.tups b xs (same b _ e fun _ z => nomatch z), fun b ob u e => un.frzs b ob u (same b _ e fun _ z => nomatch z), fun b pz e => un.tbls b pz (same b _ e fun _ z => nomatch z)⟩, hok, rv2, q⟩
        | next => exact hq
        | brk => exact hq
        | cont => exact hq
    · exact F.run A outer s H args us [.ref a] Q E hr e0 hb r ⟨a, ns, rfl, hz, hl, hT, hQ⟩
/-- a law by its table: d its def, at the depth n + 1 -/
theorem law_fn {T : TB} {cb : Cb} (WF n m : Nat) (F : Fix K mg base T cb) {d : DE} (hd : d ∈ T.fs) {f : Addr} {fd : FuncData} (Fn : L2.Fun K d.x d.x d.st f fd) (hp : d.ps = [("script" : Str)]) (hn : d.F.np = 1) (hi : d.F.io = []) (hlam : d.lam = false)
    (hc : ∀ ns : List Int, ns.length ≤ m → runD (orc (prgOf T) WF n) WF d.F [scrD (ns.map PyData.int)] = .ret (.bool true) 0 []) : FnOk P w K mg base (L2.CX P w) (n + 1) f fd [("script" : Str)] (spLaw K cb.tb m) := by
  have key := fn_run (P := P) (w := w) (WF := WF) F (lv_all F n) hd Fn (fun z => by rw [hlam] at z; cases z)
  rw [hp, hn, hi] at key
  refine law_frz ⟨fun vs H Q E h => ?_, fun A outer s H args us vs Q E hr e0 hb r h => key.run A outer s H args us vs Q E hr e0 hb r (law_sp hc (by rw [F.hK]; exact h))⟩ rfl
  obtain ⟨a, ns, rfl, _⟩ := h
  rfl
end
/-- the address that a name of the table means -/
def faOf (mg : Str → Option Value) (T : TB) (i : Nat) : Addr := match T.fs[i]? with
  | some d => match mg d.x with
    | some (.ref a) => a
    | _ => 0
  | none => 0
theorem fix_of {K : PySem.W.Frag} {mg : Str → Option Value} {base : Heap} {T : TB} {tb : List NdefX.NTab} (hT : T.fs.all (DE.chk T) = true) (hK : ∀ d ∈ T.fs, KOk K mg base tb d) (hG : ∀ p ∈ T.gs, GOk mg p) (hb : ∀ x, x ∈ bltins → mg x = none) : Fix K mg base T (cbL T K (faOf mg T) (fun _ => 0) tb) where
  hK := rfl
  chk := hT
  ok := hK
  gok := hG
  blt := hb
  fa := fun i d h => by
    obtain ⟨f, fd, _, _, _, m, _⟩ := hK d (List.mem_of_getElem? h)
    rw [m]
    show _ = some (Value.ref (faOf mg T i))
    unfold faOf
    rw [h]
    show _ = some (Value.ref (match mg d.x with | some (.ref a) => a | _ => 0))
    rw [m]
  lam := by
    funext H l vs v
    exact propext ⟨fun ⟨f, c', q, cl, pm, ctv, params, body, scope, h1, h2, h3, h4, h5, h6, h7⟩ => ⟨f, c', q, cl, pm, ctv, params, body, scope, h1, h2, h3, h4, h5, h6, h7⟩, fun ⟨f, c', q, cl, pm, ctv, params, body, scope, h1, h2, h3, h4, h5, h6, h7⟩ => ⟨f, c', q, cl, pm, ctv, params, body, scope, h1, h2, h3, h4, h5, h6, h7⟩⟩
end QQ
namespace QQ
open PySem L2 PyProof.Rows PySem.Spec
/-- the tables of the recorded defs are empty at the head -/
def OwnTabs (q : Program) (K : PySem.W.Frag) (mg : Str → Option Value) (h : Heap) : Prop := ∀ (y : Str), ((recsOf q).any fun e => e.name == y) = true → ∀ fy, mg y = some (.ref fy) → LamX.OwnTab K fy h
theorem walk_lam {l : PySem.W.OpenLaw} {n k : Nat} {q : Program} {loose : List Str} {XP : (Str → Option Value) → Heap → Prop} {YP : World → Heap → Prop} {d : DefRec} {K : Params → PySem.W.Frag} {x : Str}
    (hn : l.most = some n) (hn2 : n ≤ sizeLine) (hdf : d.params.defaults = []) (hr : Room k callerA) (hY : ∀ (w : World) (h : Heap), YP w h → (K w.params).In h)
    (F : ∀ (w : World) (mg : Str → Option Value) (fa : Addr) (h : Heap), YP w h → (K w.params).In h → h.Ns mainGlobals mg → mg d.name = some (.ref fa) → OwnTabs q (K w.params) mg h → LamX.LawAtS l w (K w.params) (L2.CX l.prog w) k n x mg fa h) :
    PySem.W.WalkO q loose XP YP l.row.toRowW d [] (fun f vs => PySem.call f vs) := by
  refine Att.attach_callB hn hdf fun w s0 s1 mg mb fa o pm cd doc a vs ns G Y ho hd hcd hmg hobj hints hlen hbits hg => ?_
  have KX := hY w _ Y
  have own : OwnTabs q (K w.params) mg s1.heap := fun y hy fy hfy c P o1 fd1 e dd vs1 sl k1 k2 k3 k4 k5 => by
    obtain ⟨r, hm, hr1⟩ := List.any_eq_true.mp hy
    have er : r.name = y := beq_iff_eq.mp hr1
    obtain ⟨a2, o2, fd2, c2, P2, g1, g2, g3, g4, _, ⟨⟨oc, vc, z1, _, z3, z4⟩, hP⟩⟩ := G.T.tab r hm
    rw [er, hfy] at g1
    cases g1
    rw [KX _ _ k1] at g2
    cases g2
    rw [k2] at g3
    cases g3
    rw [k3] at g4
    cases g4
    rw [KX _ _ k4] at z1
    cases z1
    cases z3
    rw [k5] at z4
    cases z4
    exact hP
  obtain ⟨fd, cs, sp, hT, nT, C, hb, hsp, hF⟩ := F w mg fa _ Y KX G.T.g hmg own
  exact LamX.law_callTs KX G.T.g G.T.b G.T.builtins G.T.nolimit hg hT nT C G.T.bmain hobj hints (Nat.le_trans hlen hn2) hr hF hb (fun H hH hS => hsp H a ns hlen hbits hH hS) fun H e s' h => cx_none h
end QQ
namespace QQ
open PySem L2
theorem orc_fn {P : Prg} {W n f : Nat} {F : FD} {ds : List D} (h : P.fs[f]? = some F) : (orc P W (n + 1)).fn f ds = runD (orc P W n) W F ds := by
  show (match P.fs[f]? with | some F => runD (orc P W n) W F ds | none => CO.stuck) = _
  rw [h]
theorem nl_dict {kvs : List (D × D)} (h : nl (.dict kvs) = true) : kvs = [] := by
  cases kvs with
  | nil => rfl
  | cons a b => simp [nl] at h
theorem nls_all : ∀ {xs : List D}, nls xs = true → ∀ x ∈ xs, nl x = true
  | _ :: xs, h, x, hx => by
    rw [nls, Bool.and_eq_true] at h
    rcases List.mem_cons.mp hx with q | q
    · rw [q]; exact h.1
    · exact nls_all h.2 x q
  | [], _, _, hx => nomatch hx
theorem nls_of : ∀ {xs : List D}, (∀ x ∈ xs, nl x = true) → nls xs = true
  | [], _ => rfl
  | x :: xs, h => by
    rw [nls, Bool.and_eq_true]
    exact ⟨h x (List.mem_cons_self ..), nls_of fun z hz => h z (List.mem_cons_of_mem _ hz)⟩
theorem nls_ints (ns : List Int) : nls (ns.map .int) = true := nls_of fun x hx => by
  obtain ⟨i, _, e⟩ := List.mem_map.mp hx
  rw [← e]; rfl
theorem lfs_of : ∀ {xs : List D}, (∀ x ∈ xs, lf x = true) → lfs xs = true
  | [], _ => rfl
  | x :: xs, h => by
    rw [lfs, Bool.and_eq_true]
    exact ⟨h x (List.mem_cons_self ..), lfs_of fun z hz => h z (List.mem_cons_of_mem _ hz)⟩
theorem lfs_ints (ns : List Int) : lfs (ns.map .int) = true := lfs_of fun x hx => by
  obtain ⟨i, _, e⟩ := List.mem_map.mp hx
  rw [← e]; rfl
theorem ints_map : ∀ ns : List Int, intsD (ns.map .int) = some ns
  | [] => rfl
  | n :: ns => by simp [intsD, ints_map ns]
theorem ints_eq : ∀ {xs : List D} {ns : List Int}, intsD xs = some ns → xs = ns.map .int
  | [], ns, h => by cases h; rfl
  | .int i :: r, ns, h => by
    simp only [intsD] at h
    cases q : intsD r with
    | none => rw [q] at h; cases h
    | some ms => rw [q] at h; cases h; rw [ints_eq q]; rfl
  | .none :: _, _, h => nomatch h
  | .bool _ :: _, _, h => nomatch h
  | .str _ :: _, _, h => nomatch h
  | .list _ :: _, _, h => nomatch h
  | .tuple _ :: _, _, h => nomatch h
  | .dict _ :: _, _, h => nomatch h
theorem bools_map {α : Type} (g : α → Bool) : ∀ xs : List α, boolsD (xs.map fun x => .bool (g x)) = some (xs.map g)
  | [] => rfl
  | x :: xs => by simp [boolsD, bools_map g xs]
theorem int_inj : ∀ {ns ms : List Int}, (ns.map PyData.int) = ms.map PyData.int → ns = ms
  | [], [], _ => rfl
  | [], _ :: _, h => nomatch h
  | _ :: _, [], h => nomatch h
  | n :: ns, m :: ms, h => by
    simp only [List.map_cons, List.cons.injEq, PyData.int.injEq] at h
    rw [h.1, int_inj h.2]
/-! ### shapes -/
theorem can_all_of : ∀ {xs : List D}, (∀ x ∈ xs, PyData.canLay0 x = true) → PyData.canLayAll0 xs = true
  | [], _ => rfl
  | x :: xs, h => by
    rw [PyData.canLayAll0, Bool.and_eq_true]
    exact ⟨h x (List.mem_cons_self ..), can_all_of fun z hz => h z (List.mem_cons_of_mem _ hz)⟩
theorem depth_all_of {k : Nat} : ∀ {xs : List D}, (∀ x ∈ xs, PyData.depth x ≤ k) → PyData.depthAll xs ≤ k
  | [], _ => Nat.zero_le _
  | x :: xs, h => by
    rw [PyData.depthAll]
    exact Nat.max_le.mpr ⟨h x (List.mem_cons_self ..), depth_all_of fun z hz => h z (List.mem_cons_of_mem _ hz)⟩
theorem can_all_mem : ∀ {xs : List D}, PyData.canLayAll0 xs = true → ∀ x ∈ xs, PyData.canLay0 x = true
  | _ :: xs, h, x, hx => by
    rw [PyData.canLayAll0, Bool.and_eq_true] at h
    rcases List.mem_cons.mp hx with q | q
    · rw [q]; exact h.1
    · exact can_all_mem h.2 x q
  | [], _, _, hx => nomatch hx
theorem depth_all_mem : ∀ {xs : List D} {x : D}, x ∈ xs → PyData.depth x ≤ PyData.depthAll xs
  | y :: xs, x, hx => by
    rw [PyData.depthAll]
    rcases List.mem_cons.mp hx with q | q
    · rw [q]; exact Nat.le_max_left ..
    · exact Nat.le_trans (depth_all_mem q) (Nat.le_max_right ..)
  | [], _, hx => nomatch hx
/-- can be laid, to the depth k -/
def sh (k : Nat) (d : D) : Bool := d.canLay0 && decide (d.depth ≤ k)
theorem sh_shp {k : Nat} {d : D} (h : sh k d = true) (hk : k ≤ 64) : shp d = true := by
  unfold sh at h
  rw [Bool.and_eq_true, decide_eq_true_eq] at h
  show (d.canLay0 && decide (d.depth ≤ 64)) = true
  rw [h.1, Bool.true_and, decide_eq_true_eq]
  omega
theorem sh_tuple {k : Nat} {xs : List D} (h : ∀ x ∈ xs, sh k x = true) : sh (k + 1) (.tuple xs) = true := by
  unfold sh at h ⊢
  simp only [Bool.and_eq_true, decide_eq_true_eq] at h ⊢
  refine ⟨?_, ?_⟩
  · rw [PyData.canLay0]; exact can_all_of fun x hx => (h x hx).1
  · rw [PyData.depth]
    have := depth_all_of (k := k) fun x hx => (h x hx).2
    omega
theorem sh_list {k : Nat} {xs : List D} (h : ∀ x ∈ xs, sh k x = true) : sh (k + 1) (.list xs) = true := by
  unfold sh at h ⊢
  simp only [Bool.and_eq_true, decide_eq_true_eq] at h ⊢
  refine ⟨?_, ?_⟩
  · rw [PyData.canLay0]; exact can_all_of fun x hx => (h x hx).1
  · rw [PyData.depth]
    have := depth_all_of (k := k) fun x hx => (h x hx).2
    omega
theorem sh_tuple_mem {k : Nat} {xs : List D} (h : sh k (.tuple xs) = true) : ∀ x ∈ xs, sh (k - 1) x = true := fun x hx => by
  unfold sh at h ⊢
  simp only [Bool.and_eq_true, decide_eq_true_eq] at h ⊢
  rw [PyData.canLay0, PyData.depth] at h
  exact ⟨can_all_mem h.1 x hx, by have := depth_all_mem hx; omega⟩
theorem sh_mono {k l : Nat} {d : D} (h : sh k d = true) (hk : k ≤ l) : sh l d = true := by
  unfold sh at h ⊢
  simp only [Bool.and_eq_true, decide_eq_true_eq] at h ⊢
  exact ⟨h.1, by omega⟩
theorem sh_int (k : Nat) (i : Int) : sh k (.int i) = true := by
  unfold sh
  simp [PyData.canLay0, PyData.depth]
theorem sh_ints (k : Nat) (ns : List Int) : ∀ x ∈ ns.map PyData.int, sh k x = true := fun x hx => by
  obtain ⟨i, _, e⟩ := List.mem_map.mp hx
  rw [← e]; exact sh_int k i
theorem shp_tup_ints (ns : List Int) : shp (.tuple (ns.map .int)) = true := sh_shp (k := 1) (sh_tuple (sh_ints 0 ns)) (by omega)
theorem shp_lst_ints (ns : List Int) : shp (.list (ns.map .int)) = true := sh_shp (k := 1) (sh_list (sh_ints 0 ns)) (by omega)
theorem shp_int (i : Int) : shp (.int i) = true := sh_shp (k := 0) (sh_int 0 i) (by omega)
theorem eqv_ints : ∀ ns ms : List Int, PyData.eqvAll (ns.map .int) (ms.map .int) = decide (ns = ms)
  | [], [] => rfl
  | [], _ :: _ => rfl
  | _ :: _, [] => rfl
  | n :: ns, m :: ms => by
    simp only [List.map_cons, PyData.eqvAll, PyData.eqv, eqv_ints ns ms]
    by_cases h : n = m
    · subst h; simp
    · simp [h]
theorem eqv_lst_ints (ns ms : List Int) : PyData.eqv (.list (ns.map .int)) (.list (ms.map .int)) = decide (ns = ms) := by rw [PyData.eqv, eqv_ints]
theorem eqv_tup_ints (ns ms : List Int) : PyData.eqv (.tuple (ns.map .int)) (.tuple (ms.map .int)) = decide (ns = ms) := by rw [PyData.eqv, eqv_ints]
theorem memD_ints (i : Int) (ns : List Int) : memD (.int i) (ns.map .int) = decide (i ∈ ns) := by
  unfold memD
  induction ns with
  | nil => rfl
  | cons n ns ih =>
    simp only [List.map_cons, List.any_cons, ih, PyData.eqv]
    by_cases h : i = n
    · subst h; simp
    · have h2 : ¬ n = i := fun e => h e.symm
      simp [h, h2]
/-! ### loops -/
/-- a comprehension whose turns all come back to the same slots -/
theorem lcL_fm {f : D → En → Out (Option D)} {own : List Nat} {g : D → Option D} {e0 : En} : ∀ (ds acc : List D), (∀ d ∈ ds, ∃ e1, f d e0 = .ok (g d) e1 ∧ wipeE e1 own = e0) → acc.length + ds.length ≤ LIM → lcL f own ds acc e0 = .ok (acc ++ ds.filterMap g) e0
  | [], acc, _, _ => by simp [lcL]
  | d :: ds, acc, h, hl => by
    obtain ⟨e1, q, q1⟩ := h d (List.mem_cons_self ..)
    have hl2 : acc.length < LIM := by simp at hl; omega
    unfold lcL
    rw [q]
    cases hg : g d with
    | some v =>
      simp only [if_pos hl2, q1]
      rw [lcL_fm ds _ (fun z hz => h z (List.mem_cons_of_mem _ hz)) (by simp at hl ⊢; omega)]
      simp [hg]
    | none =>
      simp only [q1]
      rw [lcL_fm ds _ (fun z hz => h z (List.mem_cons_of_mem _ hz)) (by simp at hl ⊢; omega)]
      simp [hg]
theorem ev_lc {C : Orc} {k : Nat} {own : List Nat} {p : Pat} {it : IT} {ifs : EL} {elt : E} {en e1 e0 : En} {xs : List D} {rts : List Nat} (g : D → Option D) (hi : evI C it en = .ok (xs, rts) e1) (hr : (rts.all fun i => !(own ++ muL ifs ++ muE elt).contains i) = true) (hw : wipeE e1 own = e0)
    (hl : xs.length ≤ LIM) (hf : ∀ d ∈ xs, ∃ e2, lcT k p (fun e => evAnd1 C ifs e) (fun e => ev C elt e) d e0 = .ok (g d) e2 ∧ wipeE e2 own = e0) :
    ev C (.lc k own p it ifs elt) en = .ok (.list (xs.filterMap g), .own k) e0 := by
  rw [ev, hi]
  simp only [Out.bind_ok, if_pos hr, hw]
  rw [lcL_fm xs [] hf (by simpa using hl)]
  simp
theorem fm_some {α β : Type} (g : α → β) (xs : List α) : xs.filterMap (fun x => some (g x)) = xs.map g := by
  induction xs with
  | nil => rfl
  | cons x xs ih => simp [ih]
/-- a for whose turns all go on: an invariant of what is still to come and the slots -/
theorem forL_inv {f : D → En → Out Fl} (I : List D → En → Prop) : ∀ (ds : List D) (e : En), (∀ d r e, I (d :: r) e → ∃ e', f d e = .ok .nx e' ∧ I r e') → I ds e → ∃ e', forL f ds e = .ok .nx e' ∧ I [] e'
  | [], e, _, h => ⟨e, rfl, h⟩
  | d :: ds, e, hf, h => by
    obtain ⟨e1, q, h1⟩ := hf d ds e h
    obtain ⟨e2, q2, h2⟩ := forL_inv I ds e1 hf h1
    exact ⟨e2, by unfold forL fls; rw [q]; exact q2, h2⟩
theorem ex_for {C : Orc} {W : Nat} {p : Pat} {it : IT} {body : SL} {en e1 : En} {xs : List D} {rts : List Nat} (hi : evI C it en = .ok (xs, rts) e1) (hr : (rts.all fun i => !(ptL p ++ muSs body).contains i) = true) :
    ex C W (.for_ p it body) en = forL (fun d e => match bindP p d e with
        | some e' => exs C W body e'
        | none => .stuck) xs e1 := by
  rw [ex, hi]
  simp only [Out.bind_ok, if_pos hr]
  try rfl
theorem ev_rngl {C : Orc} {es : EL} {en e1 : En} {rs : List (D × Kd)} {xs : List D} (h : evL C es en = .ok rs e1) (hr : rangeD (dsOf rs) = some xs) : ev C (.rngl false es) en = .ok (.list xs, .own 1) e1 := by
  rw [ev, h]
  simp only [Out.bind_ok]
  rw [hr]
  rfl
theorem evI_rng {C : Orc} {es : EL} {en e1 : En} {rs : List (D × Kd)} {xs : List D} (h : evL C es en = .ok rs e1) (hr : rangeD (dsOf rs) = some xs) : evI C (.rng es) en = .ok (xs, []) e1 := by
  rw [evI, h]
  simp only [Out.bind_ok]
  rw [hr]
/-! ### bodies, calls -/
theorem run_ret {C : Orc} {W np ns : Nat} {e : E} {ds : List D} (h : ds.length = np) {d : D} {k : Nat} {e1 : En} (q : ev C e (startE { np := np, ns := ns, body := .cons (.ret e) .nil } ds) = .ok (d, .own k) e1) : runD C W { np := np, ns := ns, body := .cons (.ret e) .nil } ds = .ret d k [] := by
  unfold runD
  rw [if_pos h]
  simp only [exs, ex, q, fls, Out.bind_ok, keepK, iosOut]
/-- a body's end -/
theorem run_of {C : Orc} {W : Nat} {F : FD} {ds ios : List D} {d : D} {k : Nat} {e1 : En} (h : ds.length = F.np) (q : exs C W F.body (startE F ds) = .ok (.rt d k) e1) (hi : iosOut e1 0 F.io = some ios) : runD C W F ds = .ret d k ios := by
  unfold runD
  rw [if_pos h, q]
  simp only [hi]
theorem own_args : ∀ {rs : List (D × Kd)}, rs.all ownK = true → argsOk [] [] rs = true ∧ anyRoot [] rs = false
  | [], _ => ⟨rfl, rfl⟩
  | (d, .own n) :: rs, hr => own_args (rs := rs) (by simpa [ownK] using hr)
  | (d, .root i m w) :: rs, hr => by simp [ownK] at hr
/-- a call that hands nothing over to be changed -/
theorem call_own {co : List D → CO} {bl : List Nat} {rs : List (D × Kd)} {en : En} {d : D} {k : Nat} (hr : rs.all ownK = true) (q : co (dsOf rs) = .ret d k []) : callD co [] bl rs en = .ok (d, .own k) en := by
  obtain ⟨h1, h2⟩ := own_args hr
  unfold callD
  simp [argJs, jsOf, h1, q, h2, setIos]
/-- a call that changes its first argument, a list of the slot i -/
theorem call_io {co : List D → CO} {bl : List Nat} {i : Nat} {xs ys : List D} {rs : List (D × Kd)} {en : En} {d : D} {k : Nat} (hb : bl.contains i = true) (he : en[i]? = some (some (.list xs, 1))) (hx : lfs xs = true) (hy : lfs ys = true) (hr : rs.all ownK = true) (q : co (.list xs :: dsOf rs) = .ret d k [.list ys]) :
    callD co [1] bl ((.list xs, .root i 1 true) :: rs) en = .ok (d, .own k) (en.set i (some (.list ys, 1))) := by
  have fx : ∀ {zs : List D}, lfs zs = true → full 1 (.list zs) = true := fun {zs} hz => by
    rw [full, List.all_eq_true]
    intro z hz'
    rw [full]
    exact (go hz z hz')
  have a1 : ∀ (js : List Nat), argsOk js [] rs = true := fun js => by
    clear q
    induction rs with
    | nil => rfl
    | cons r rs ih =>
      obtain ⟨d, kd⟩ := r
      cases kd with
      | own n => exact ih (by simpa [ownK] using hr)
      | root i m w => simp [ownK] at hr
  obtain ⟨_, h2⟩ := own_args hr
  have hb' : i ∈ bl := by simpa using hb
  unfold callD
  have q' : co (.list xs :: rs.map Prod.fst) = .ret d k [.list ys] := q
  simp [argJs, fx hx, depthAt, he, hb', jsOf, argsOk, a1, dsOf, anyRoot, h2, q', setIos, fx hy]
where
  go : ∀ {zs : List D}, lfs zs = true → ∀ z ∈ zs, lf z = true
    | _ :: zs, h, x, hx => by
      rw [lfs, Bool.and_eq_true] at h
      rcases List.mem_cons.mp hx with q | q
      · rw [q]; exact h.1
      · exact go h.2 x q
    | [], _, _, hx => nomatch hx
theorem lfs_mem {zs : List D} (h : lfs zs = true) : ∀ z ∈ zs, lf z = true := call_io.go h
end QQ
namespace QQ
open PySem L2
theorem ltD_int (a b : Int) : ltD (.int a) (.int b) = decide (a < b) := PySem.W.dataLt_int a b
theorem sortD_ints (ns : List Int) : sortD (ns.map .int) = (ns.mergeSort fun a b => decide (a ≤ b)).map .int := by
  unfold sortD
  rw [List.map_mergeSort (s := fun a b => !ltD b a)]
  intro a _ b _
  rw [ltD_int]
  by_cases h : a ≤ b
  · have h2 : ¬ b < a := by omega
    simp [h, h2]
  · have h2 : b < a := by omega
    simp [h, h2]
theorem sortOk_ints (ns : List Int) : sortOk (ns.map .int) = true := by
  have h1 : (ns.map PyData.int).all (fun a => (ns.map PyData.int).all fun b => PySem.W.alike a b) = true := by
    simp [List.all_map, Function.comp_def, PySem.W.alike]
  have h2 : (ns.map PyData.int).all shp = true := List.all_eq_true.mpr fun x hx => sh_shp (sh_ints 0 ns x hx) (by omega)
  unfold sortOk
  rw [h1, h2, lfs_ints]
  simp [List.all_map, Function.comp_def]
/-- no one twice: none stands ahead -/
theorem nodup_take (ns : List Int) : ns.Nodup ↔ ∀ k, k < ns.length → ns.getD k 0 ∉ ns.take k := by
  rw [List.Nodup, List.pairwise_iff_getElem]
  refine ⟨fun h k hk hm => ?_, fun h i j hi hj hij e => ?_⟩
  · obtain ⟨j, hj, e⟩ := List.mem_take_iff_getElem.mp hm
    refine h j k (by omega) hk (by omega) ?_
    rw [e]
    simp [List.getD, hk]
  · refine h j hj (List.mem_take_iff_getElem.mpr ⟨i, by omega, ?_⟩)
    rw [e]
    simp [List.getD, hj]
/-- no one twice, all in the other, which is no longer -/
theorem perm_of_sub {α : Type} [DecidableEq α] : ∀ {l m : List α}, l.Nodup → (∀ x ∈ l, x ∈ m) → m.length ≤ l.length → l.Perm m
  | [], m, _, _, hl => by
    have : m = [] := List.eq_nil_of_length_eq_zero (by simpa using hl)
    rw [this]
  | a :: l, m, hn, hs, hl => by
    have ha : a ∈ m := hs a (List.mem_cons_self ..)
    have hp := List.perm_cons_erase ha
    obtain ⟨h1, h2⟩ := List.nodup_cons.mp hn
    refine List.Perm.trans (List.Perm.cons a ?_) hp.symm
    have hlen := List.length_erase_of_mem ha
    refine perm_of_sub h2 (fun x hx => ?_) ?_
    · have hne : x ≠ a := fun e => h1 (e ▸ hx)
      exact (List.mem_erase_of_ne hne).mpr (hs x (List.mem_cons_of_mem _ hx))
    · simp at hl
      omega
def rangeI (n : Nat) : List Int := (List.range n).map fun (k : Nat) => (k : Int)
theorem mem_rangeI {n : Nat} {i : Int} : i ∈ rangeI n ↔ 0 ≤ i ∧ i < n := by
  unfold rangeI
  rw [List.mem_map]
  refine ⟨fun ⟨k, hk, e⟩ => ?_, fun ⟨h1, h2⟩ => ⟨i.toNat, List.mem_range.mpr (by omega), by omega⟩⟩
  have := List.mem_range.mp hk
  omega
theorem nodup_rangeI (n : Nat) : (rangeI n).Nodup := by
  unfold rangeI List.Nodup
  rw [List.pairwise_map]
  exact List.nodup_range.imp fun {a b} h e => h (by omega)
theorem sorted_rangeI (n : Nat) : (rangeI n).Pairwise (fun a b => decide (a ≤ b) = true) := by
  unfold rangeI
  rw [List.pairwise_map]
  exact List.pairwise_lt_range.imp fun {a b} h => by simp; omega
theorem length_rangeI (n : Nat) : (rangeI n).length = n := by simp [rangeI]
/-- sorted it is the range just if all are in it, none twice -/
theorem sort_range (ns : List Int) : (ns.mergeSort fun a b => decide (a ≤ b)) = rangeI ns.length ↔ (∀ i ∈ ns, 0 ≤ i ∧ i < ns.length) ∧ ns.Nodup := by
  have hp := List.mergeSort_perm ns fun a b => decide (a ≤ b)
  refine ⟨fun h => ⟨fun i hi => ?_, ?_⟩, fun ⟨h1, h2⟩ => ?_⟩
  · have := hp.mem_iff.mpr hi
    rw [h] at this
    exact mem_rangeI.mp this
  · rw [h] at hp
    exact hp.nodup (nodup_rangeI _)
  · have hq : ns.Perm (rangeI ns.length) := perm_of_sub h2 (fun x hx => mem_rangeI.mpr (h1 x hx)) (by rw [length_rangeI]; exact Nat.le_refl _)
    refine (hp.trans hq).eq_of_pairwise (le := fun a b => decide (a ≤ b) = true) ?_ (List.pairwise_mergeSort ?_ ?_ ns) (sorted_rangeI _)
    · intro a b _ _ h3 h4
      simp at h3 h4
      omega
    · intro a b c h3 h4
      simp at h3 h4 ⊢
      omega
    · intro a b
      simp
      omega
end QQ
namespace QQ
open PySem L2
theorem LIM_eq : LIM = 16777216 := rfl
theorem range_len {m : Nat} (h : m ≤ 10000) : rangeD [.int m] = some ((rangeI m).map .int) := by
  have h3 : (m : Int) < 2 ^ 62 := by omega
  have h4 : (m : Int).toNat ≤ LIM := by rw [LIM_eq]; omega
  have h5 : -(2 ^ 62) ≤ (m : Int) := by omega
  simp only [rangeD]
  rw [if_pos (by rw [decide_eq_true h3, decide_eq_true h4, decide_eq_true h5]; rfl)]
  simp [rangeI, Function.comp_def]
theorem exs_nx {C : Orc} {W : Nat} {s : S} {r : SL} {en e1 : En} (h : ex C W s en = .ok .nx e1) : exs C W (.cons s r) en = exs C W r e1 := by
  rw [exs, h]
  rfl
theorem exs_rt {C : Orc} {W : Nat} {s : S} {r : SL} {en e1 : En} {d : D} {k : Nat} (h : ex C W s en = .ok (.rt d k) e1) : exs C W (.cons s r) en = .ok (.rt d k) e1 := by
  rw [exs, h]
  rfl
theorem exs_nil {C : Orc} {W : Nat} {en : En} : exs C W .nil en = .ok .nx en := rfl
theorem ex_ret {C : Orc} {W : Nat} {e : E} {en e1 : En} {d : D} {k : Nat} (h : ev C e en = .ok (d, .own k) e1) : ex C W (.ret e) en = .ok (.rt d k) e1 := by
  rw [ex, h]
  rfl
theorem ex_asg {C : Orc} {W i : Nat} {e : E} {en e1 : En} {d : D} {k : Nat} (h : ev C e en = .ok (d, .own k) e1) (hi : i < e1.length) : ex C W (.asg (.nm i) e) en = .ok .nx (e1.set i (some (d, flagOf d k))) := by
  rw [ex, h]
  simp only [Out.bind_ok, asgN, keepK, if_pos hi, opt]
theorem ex_ite {C : Orc} {W : Nat} {c : E} {a b : SL} {en e1 : En} {t : Bool} {k : Kd} (h : ev C c en = .ok (.bool t, k) e1) : ex C W (.ite c a b) en = if t then exs C W a e1 else exs C W b e1 := by
  rw [ex, evB, h]
  simp only [Out.bind_ok]
theorem mul_ok (i j : Int) (h : -(2 ^ 64) < j ∧ j < 2 ^ 64) : binD .mul (.int i) (.int j) = some (.int (i * j)) := by
  have : ((decide (-(2 ^ 64) < i) && decide (i < 2 ^ 64)) || (decide (-(2 ^ 64) < j) && decide (j < 2 ^ 64))) = true := by
    rw [decide_eq_true h.1, decide_eq_true h.2]; simp
  simp only [binD]
  rw [if_pos this]
theorem mul_ok' (i j : Int) (h : -(2 ^ 64) < i ∧ i < 2 ^ 64) : binD .mul (.int i) (.int j) = some (.int (i * j)) := by
  have : ((decide (-(2 ^ 64) < i) && decide (i < 2 ^ 64)) || (decide (-(2 ^ 64) < j) && decide (j < 2 ^ 64))) = true := by
    rw [decide_eq_true h.1, decide_eq_true h.2]; simp
  simp only [binD]
  rw [if_pos this]
theorem mod_ok (i j : Int) (h : 0 < j) : binD .mod (.int i) (.int j) = some (.int (i % j)) := by
  simp only [binD]
  rw [if_pos (decide_eq_true h)]
theorem fdiv_ok (i j : Int) (h : 0 < j ∧ j < 1073741824) : binD .fdiv (.int i) (.int j) = some (.int (i / j)) := by
  simp only [binD]
  rw [if_pos (by rw [decide_eq_true h.1, decide_eq_true h.2]; rfl)]
theorem dm_ok (i j : Int) (h : 0 < j ∧ j < 1073741824) : dmD [.int i, .int j] = some (.tuple [.int (i / j), .int (i % j)]) := by
  simp only [dmD]
  rw [if_pos (by rw [decide_eq_true h.1, decide_eq_true h.2]; rfl)]
theorem pow_ok (i j : Int) (h : 0 ≤ j ∧ j ≤ 1000000) (hi : i.natAbs < 2 ^ 64) : binD .pow (.int i) (.int j) = some (.int (i ^ j.toNat)) := by
  simp only [binD]
  rw [if_pos (by rw [decide_eq_true h.1, decide_eq_true h.2, decide_eq_true hi]; rfl)]
/-! ### the drawn numbers -/
/-- a pool: three whole numbers -/
def pool (a b c : Int) : D := .list [.int a, .int b, .int c]
/-- what draws: its whole body, its numbers told -/
def drawS1 : S := (.ite (.cmp .gt (.ix (.bw 0) (.cst (.int 1))) (.cst (.int 0))) (.cons (.asgm [(.sub 0 (.cons (.cst (.int 1)) .nil)), (.nm 2)] (.bi .divmod (.cons (.ix (.bw 0) (.cst (.int 1))) (.cons (.bw 1) .nil)))) (.cons (.ret (.mv 2)) .nil)) .nil)
def drawS2 : S := (.set 0 (.cons (.cst (.int 2)) .nil) (.bin .add (.ix (.bw 0) (.cst (.int 2))) (.cst (.int 1))))
def drawS3 : S := (.asg (.nm 3) (.bi .int (.cons (.ix (.bw 0) (.cst (.int 0))) .nil)))
def drawS4 (p q r s t : Int) : S := (.set 0 (.cons (.cst (.int 0)) .nil) (.bin .mod (.bi .int (.cons (.bin .add (.bin .add (.bin .mul (.bw 3) (.bin .add (.bin .mod (.bw 3) (.cst (.int p))) (.cst (.int q)))) (.bin .mul (.cst (.int r)) (.ix (.bw 0) (.cst (.int 2))))) (.cst (.int s))) .nil)) (.cst (.int t))))
def drawS5 (u : Int) : S := (.ret (.bin .mod (.bi .int (.cons (.bin .fdiv (.ix (.bw 0) (.cst (.int 0))) (.cst (.int u))) .nil)) (.bw 1)))
def drawF (p q r s t u : Int) : FD := { np := 2, ns := 4, io := [1], body := .cons drawS1 (.cons drawS2 (.cons drawS3 (.cons (drawS4 p q r s t) (.cons (drawS5 u) .nil)))) }
theorem ix3 {C : Orc} {a b c m : Int} {x y : Sl} (i : Nat) (h : i < 3) : ev C (.ix (.bw 0) (.cst (.int i))) [some (pool a b c, 1), some (.int m, 0), x, y] = .ok (.int ([a, b, c].getD i 0), .own 0) [some (pool a b c, 1), some (.int m, 0), x, y] := by
  match i, h with
  | 0, _ => simp [ev, rdBw, pool, pend, muE, ixR, getD, ixD, L2.atI, L2.ixN, itemK, lf]
  | 1, _ => simp [ev, rdBw, pool, pend, muE, ixR, getD, ixD, L2.atI, L2.ixN, itemK, lf]
  | 2, _ => simp [ev, rdBw, pool, pend, muE, ixR, getD, ixD, L2.atI, L2.ixN, itemK, lf]
theorem draw_ok {C : Orc} {p q r s t u : Int} (a b c m : Int) (hp : 0 < p ∧ p < 2 ^ 60) (hq : 0 ≤ q ∧ q < 2 ^ 60) (hr : 0 ≤ r ∧ r < 2 ^ 60) (ht : 0 < t) (hu : 0 < u ∧ u < 1073741824) (hm : 0 < m ∧ m < 1073741824) :
    ∃ d a' b' c', runD C 1 (drawF p q r s t u) [pool a b c, .int m] = .ret (.int d) 0 [pool a' b' c'] ∧ 0 ≤ d ∧ d < m := by
  have x0 : ∀ {a b c : Int} {x y : Sl}, ev C (.ix (.bw 0) (.cst (.int 0))) [some (pool a b c, 1), some (.int m, 0), x, y] = .ok (.int a, .own 0) [some (pool a b c, 1), some (.int m, 0), x, y] := fun {a b c x y} => ix3 0 (by omega)
  have x1 : ∀ {a b c : Int} {x y : Sl}, ev C (.ix (.bw 0) (.cst (.int 1))) [some (pool a b c, 1), some (.int m, 0), x, y] = .ok (.int b, .own 0) [some (pool a b c, 1), some (.int m, 0), x, y] := fun {a b c x y} => ix3 1 (by omega)
  have x2 : ∀ {a b c : Int} {x y : Sl}, ev C (.ix (.bw 0) (.cst (.int 2))) [some (pool a b c, 1), some (.int m, 0), x, y] = .ok (.int c, .own 0) [some (pool a b c, 1), some (.int m, 0), x, y] := fun {a b c x y} => ix3 2 (by omega)
  have hc : ∀ {x : Sl}, ev C (.cmp .gt (.ix (.bw 0) (.cst (.int 1))) (.cst (.int 0))) [some (pool a b c, 1), some (.int m, 0), none, none] = .ok (.bool (decide (0 < b)), .own 0) [some (pool a b c, 1), some (.int m, 0), none, none] := fun {x} => by
    rw [ev, x1]
    simp [ev, pend, cmpD, ordF, okB]
  by_cases hb : 0 < b
  · refine ⟨b % m, a, b / m, c, run_of (e1 := [some (pool a (b / m) c, 1), some (.int m, 0), none, none]) rfl ?_ rfl, Int.emod_nonneg _ (by omega), Int.emod_lt_of_pos _ hm.1⟩
    refine exs_rt ?_
    show ex C 1 drawS1 [some (pool a b c, 1), some (.int m, 0), none, none] = _
    rw [drawS1, ex_ite (hc (x := none))]
    rw [if_pos (decide_eq_true hb)]
    have h1 : ex C 1 (.asgm [(.sub 0 (.cons (.cst (.int 1)) .nil)), (.nm 2)] (.bi .divmod (.cons (.ix (.bw 0) (.cst (.int 1))) (.cons (.bw 1) .nil)))) [some (pool a b c, 1), some (.int m, 0), none, none] = .ok .nx [some (pool a (b / m) c, 1), some (.int m, 0), some (.int (b % m), 0), none] := by
      rw [ex, ev, evL, x1]
      simp [evL, ev, rdBw, pend, itemsOk, biD, dsOf, dm_ok b m hm, flagOf, keepK, lfs, lf, asgLV, isLst, pool, muL, muE, setS, setOk, setP, setD, L2.ixN]
    rw [exs_nx h1]
    refine exs_rt (ex_ret ?_)
    simp [ev, rdMv]
  · let v := (a * (a % p + q) + r * (c + 1) + s) % t
    refine ⟨v / u % m, v, b, c + 1, run_of (e1 := [some (pool v b (c + 1), 1), some (.int m, 0), none, some (.int a, 0)]) rfl ?_ rfl, Int.emod_nonneg _ (by omega), Int.emod_lt_of_pos _ hm.1⟩
    have h1 : ex C 1 drawS1 [some (pool a b c, 1), some (.int m, 0), none, none] = .ok .nx [some (pool a b c, 1), some (.int m, 0), none, none] := by
      rw [drawS1, ex_ite (hc (x := none)), if_neg (by simpa using hb)]
      rfl
    have h2 : ex C 1 drawS2 [some (pool a b c, 1), some (.int m, 0), none, none] = .ok .nx [some (pool a b (c + 1), 1), some (.int m, 0), none, none] := by
      rw [drawS2, ex, ev, x2]
      simp [ev, pend, itemsOk, binD, flagOf, isLst, pool, muL, muE, evL, keepK, setS, setOk, setP, setD, dsOf, lf, L2.ixN, opt]
    have h3 : ex C 1 drawS3 [some (pool a b (c + 1), 1), some (.int m, 0), none, none] = .ok .nx [some (pool a b (c + 1), 1), some (.int m, 0), none, some (.int a, 0)] := by
      refine (ex_asg (d := .int a) (k := 0) (e1 := [some (pool a b (c + 1), 1), some (.int m, 0), none, none]) ?_ (by simp)).trans rfl
      rw [ev, evL, x0]
      simp [evL, pend, itemsOk, biD, dsOf, intC, flagOf]
    have b1 : -(2 ^ 64) < a % p + q ∧ a % p + q < 2 ^ 64 := by
      have := Int.emod_nonneg a (show p ≠ 0 by omega)
      have := Int.emod_lt_of_pos a hp.1
      omega
    have h4 : ex C 1 (drawS4 p q r s t) [some (pool a b (c + 1), 1), some (.int m, 0), none, some (.int a, 0)] = .ok .nx [some (pool v b (c + 1), 1), some (.int m, 0), none, some (.int a, 0)] := by
      have e1 : ev C (.bin .mul (.bw 3) (.bin .add (.bin .mod (.bw 3) (.cst (.int p))) (.cst (.int q)))) [some (pool a b (c + 1), 1), some (.int m, 0), none, some (.int a, 0)] = .ok (.int (a * (a % p + q)), .own 0) [some (pool a b (c + 1), 1), some (.int m, 0), none, some (.int a, 0)] := by
        simp [ev, rdBw, pend, itemsOk, mod_ok a p hp.1, flagOf]
        simp [binD, -Int.reducePow, flagOf]
        have := mul_ok a (a % p + q) b1
        simp only [binD] at this
        split at this
        · rename_i hh
          simp at hh
          simp [hh]
        · cases this
      have e2 : ev C (.bin .mul (.cst (.int r)) (.ix (.bw 0) (.cst (.int 2)))) [some (pool a b (c + 1), 1), some (.int m, 0), none, some (.int a, 0)] = .ok (.int (r * (c + 1)), .own 0) [some (pool a b (c + 1), 1), some (.int m, 0), none, some (.int a, 0)] := by
        rw [ev, ev]
        simp only [Out.bind_ok, x2]
        simp only [pend, itemsOk, Bool.and_self, if_pos, mul_ok' r (c + 1) (by omega), flagOf]
      rw [drawS4, ex, ev, ev, evL, ev, ev, e1]
      simp only [Out.bind_ok, e2]
      simp [ev, pend, itemsOk, binD, flagOf, evL, biD, dsOf, intC, ht, isLst, pool, muL, muE, keepK, setS, setOk, setP, setD, lf, L2.ixN, opt, v]
    refine (exs_nx h1).trans ((exs_nx h2).trans ((exs_nx h3).trans ((exs_nx h4).trans (exs_rt ?_))))
    rw [drawS5]
    refine ex_ret ?_
    have e1 : ev C (.bin .fdiv (.ix (.bw 0) (.cst (.int 0))) (.cst (.int u))) [some (pool v b (c + 1), 1), some (.int m, 0), none, some (.int a, 0)] = .ok (.int (v / u), .own 0) [some (pool v b (c + 1), 1), some (.int m, 0), none, some (.int a, 0)] := by
      rw [ev, x0]
      simp only [Out.bind_ok, ev, pend, itemsOk, Bool.and_self, if_pos, fdiv_ok v u hu, flagOf]
    rw [ev, ev, evL, e1]
    simp only [Out.bind_ok, evL, pend, if_pos, List.all_cons, List.all_nil, itemsOk, Bool.and_self, biD, dsOf, List.map_cons, List.map_nil, intC, flagOf, ev, rdBw, List.getElem?_cons_succ, List.getElem?_cons_zero, mod_ok (v / u) m hm.1]

/-! ### the pools -/
def poolE1 (A B : Int) : E := (.ite (.cmp .lt (.bw 1) (.bi .len (.cons (.bw 0) .nil))) (.bi .int (.cons (.ix (.bw 0) (.bw 1)) .nil)) (.bin .add (.bin .mul (.cst (.int A)) (.bw 1)) (.cst (.int B))))
def poolE2 (C D : Int) : E := (.bin .add (.cst (.int C)) (.bin .mul (.cst (.int D)) (.bw 1)))
def poolB (M N K : Int) : SL := (.cons (.asg (.nm 3) (.bin .mod (.bi .int (.cons (.bin .add (.bin .add (.bin .mul (.bw 3) (.cst (.int M))) (.bin .mod (.bi .int (.cons (.bw 4) .nil)) (.cst (.int N)))) (.cst (.int K))) .nil)) (.cst (.int N)))) .nil)
def poolR (L N : Int) : E := (.lst 1 (.cons (.bin .mod (.bi .int (.cons (.bin .add (.bw 3) (.bin .mul (.bw 2) (.cst (.int L)))) .nil)) (.cst (.int N))) (.cons (.ite (.or_ (.cmp .lt (.bw 2) (.cst (.int 0))) (.cons (.cmp .ge (.bw 2) (.bin .pow (.cst (.int 10)) (.cst (.int 18)))) .nil)) (.bi .abs (.cons (.bw 2) .nil)) (.cst (.int 0))) (.cons (.cst (.int 0)) .nil))))
def poolF (A B C D M N K L : Int) : FD := { np := 2, ns := 5, io := [], body := (.cons (.par [2, 3] (.cons (poolE1 A B) (.cons (poolE2 C D) .nil))) (.cons (.for_ (.nm 4) (.seq (.sl (.bw 0) .none (.some (.cst (.int 63))))) (poolB M N K)) (.cons (.ret (poolR L N)) .nil))) }
theorem at_nat {α : Type} (xs : List α) (k : Nat) (h : k < xs.length) : ixD xs (k : Int) = some xs[k] := by
  unfold ixD L2.atI L2.ixN
  have h1 : (0 : Int) ≤ k := by omega
  have h2 : (k : Int) < xs.length := by omega
  rw [if_pos h1, if_pos h2]
  simp [h]
theorem pool_ok {O : Orc} {A B C D M N K L : Int} (ns : List Int) (lap : Nat) (hA : -(2 ^ 64) < A ∧ A < 2 ^ 64) (hD : -(2 ^ 64) < D ∧ D < 2 ^ 64) (hM : -(2 ^ 64) < M ∧ M < 2 ^ 64) (hN : 0 < N) (hL : -(2 ^ 64) < L ∧ L < 2 ^ 64) :
    ∃ a b, runD O 1 (poolF A B C D M N K L) [scrD (ns.map .int), .int lap] = .ret (pool a b 0) 1 [] := by
  have h1 : ∃ o, ev O (poolE1 A B) [some (scrD (ns.map .int), 0), some (.int lap, 0), none, none, none] = .ok (.int o, .own 0) [some (scrD (ns.map .int), 0), some (.int lap, 0), none, none, none] := by
    have hc : ev O (.cmp .lt (.bw 1) (.bi .len (.cons (.bw 0) .nil))) [some (scrD (ns.map .int), 0), some (.int lap, 0), none, none, none] = .ok (.bool (decide (lap < ns.length)), .own 0) [some (scrD (ns.map .int), 0), some (.int lap, 0), none, none, none] := by
      simp [ev, evL, rdBw, pend, muE, muL, itemsOk, biD, dsOf, lenD, scrD, flagOf, cmpD, ordF, okB]
    by_cases h : lap < ns.length
    · refine ⟨ns[lap], ?_⟩
      rw [poolE1, ev, hc]
      have hg := at_nat (ns.map PyData.int) lap (by simpa using h)
      simp [h, ev, evL, rdBw, pend, muE, muL, ixR, getD, scrD, hg, itemK, itemsOk, biD, dsOf, intC, flagOf]
    · refine ⟨A * lap + B, ?_⟩
      rw [poolE1, ev, hc]
      simp only [Out.bind_ok, decide_eq_false h]
      have := mul_ok' A lap hA
      simp [ev, rdBw, pend, itemsOk, this, flagOf]
      rfl
  obtain ⟨o, h1⟩ := h1
  have h2 : ev O (poolE2 C D) [some (scrD (ns.map .int), 0), some (.int lap, 0), none, none, none] = .ok (.int (C + D * lap), .own 0) [some (scrD (ns.map .int), 0), some (.int lap, 0), none, none, none] := by
    have := mul_ok' D lap hD
    simp [poolE2, ev, rdBw, pend, itemsOk, this, flagOf]
    rfl
  have h3 : ex O 1 (.par [2, 3] (.cons (poolE1 A B) (.cons (poolE2 C D) .nil))) [some (scrD (ns.map .int), 0), some (.int lap, 0), none, none, none] = .ok .nx [some (scrD (ns.map .int), 0), some (.int lap, 0), some (.int o, 0), some (.int (C + D * lap), 0), none] := by
    rw [ex, evL, h1]
    simp only [Out.bind_ok]
    rw [evL, h2]
    simp [evL, pend, ownK, asgNs, asgN, keepK, flagOf, opt]
  have hit : ∃ cs : List Int, evI O (.seq (.sl (.bw 0) .none (.some (.cst (.int 63))))) [some (scrD (ns.map .int), 0), some (.int lap, 0), some (.int o, 0), some (.int (C + D * lap), 0), none] = .ok (cs.map .int, []) [some (scrD (ns.map .int), 0), some (.int lap, 0), some (.int o, 0), some (.int (C + D * lap), 0), none] := by
    refine ⟨cutL ns none (some 63), ?_⟩
    simp [evI, ev, evO, rdBw, pend, partO, slR, itemsOk, scrD, sliceD, itemsD, rootsOf, flagOf]
    simp [cutL, List.map_take, List.map_drop]
  obtain ⟨cs, hit⟩ := hit
  have hl := forL_inv (f := fun d e => match bindP (.nm 4) d e with
        | some e' => exs O 1 (poolB M N K) e'
        | none => .stuck) (fun ds e => (∀ d ∈ ds, ∃ i, d = PyData.int i) ∧ ∃ s x, e = [some (scrD (ns.map .int), 0), some (.int lap, 0), some (.int o, 0), some (.int s, 0), x]) (cs.map .int) [some (scrD (ns.map .int), 0), some (.int lap, 0), some (.int o, 0), some (.int (C + D * lap), 0), none] (fun d r e hI => by
    obtain ⟨hd, s, x, he⟩ := hI
    obtain ⟨i, hi⟩ := hd d (List.mem_cons_self ..)
    subst hi he
    refine ⟨[some (scrD (ns.map .int), 0), some (.int lap, 0), some (.int o, 0), some (.int ((s * M + i % N + K) % N), 0), some (.int i, 0)], ?_, fun z hz => hd z (List.mem_cons_of_mem _ hz), _, _, rfl⟩
    show exs O 1 (poolB M N K) [some (scrD (ns.map .int), 0), some (.int lap, 0), some (.int o, 0), some (.int s, 0), some (.int i, 0)] = _
    have e1 : ev O (.bin .mul (.bw 3) (.cst (.int M))) [some (scrD (ns.map .int), 0), some (.int lap, 0), some (.int o, 0), some (.int s, 0), some (.int i, 0)] = .ok (.int (s * M), .own 0) [some (scrD (ns.map .int), 0), some (.int lap, 0), some (.int o, 0), some (.int s, 0), some (.int i, 0)] := by
      have := mul_ok s M hM
      simp [ev, rdBw, pend, itemsOk, this, flagOf]
    refine (exs_nx (e1 := [some (scrD (ns.map .int), 0), some (.int lap, 0), some (.int o, 0), some (.int ((s * M + i % N + K) % N), 0), some (.int i, 0)]) ((ex_asg (d := .int ((s * M + i % N + K) % N)) (k := 0) (e1 := [some (scrD (ns.map .int), 0), some (.int lap, 0), some (.int o, 0), some (.int s, 0), some (.int i, 0)]) ?_ (by simp)).trans rfl)).trans rfl
    rw [ev, ev, evL, ev, ev, e1]
    have m1 := mod_ok i N hN
    simp [ev, evL, rdBw, pend, itemsOk, biD, dsOf, intC, flagOf, m1, binD, hN]) ⟨fun d hd => by
      obtain ⟨i, _, e⟩ := List.mem_map.mp hd
      exact ⟨i, e.symm⟩, _, _, rfl⟩
  obtain ⟨e', hl, _, s, x, he⟩ := hl
  subst he
  refine ⟨(s + o * L) % N, if o < 0 ∨ 10 ^ 18 ≤ o then (if o < 0 then -o else o) else 0, run_of (e1 := [some (scrD (ns.map .int), 0), some (.int lap, 0), some (.int o, 0), some (.int s, 0), x]) rfl ?_ rfl⟩
  refine (exs_nx h3).trans ((exs_nx ((ex_for hit rfl).trans hl)).trans (exs_rt (ex_ret ?_)))
  have e1 : ev O (.bin .mod (.bi .int (.cons (.bin .add (.bw 3) (.bin .mul (.bw 2) (.cst (.int L)))) .nil)) (.cst (.int N))) [some (scrD (ns.map .int), 0), some (.int lap, 0), some (.int o, 0), some (.int s, 0), x] = .ok (.int ((s + o * L) % N), .own 0) [some (scrD (ns.map .int), 0), some (.int lap, 0), some (.int o, 0), some (.int s, 0), x] := by
    have e0 : ev O (.bin .mul (.bw 2) (.cst (.int L))) [some (scrD (ns.map .int), 0), some (.int lap, 0), some (.int o, 0), some (.int s, 0), x] = .ok (.int (o * L), .own 0) [some (scrD (ns.map .int), 0), some (.int lap, 0), some (.int o, 0), some (.int s, 0), x] := by
      have := mul_ok o L hL
      simp [ev, rdBw, pend, itemsOk, this, flagOf]
    rw [ev, ev, evL, ev, ev]
    have m1 := mod_ok (s + o * L) N hN
    simp only [rdBw, List.getElem?_cons_succ, List.getElem?_cons_zero, Out.bind_ok, e0]
    simp only [evL, ev, pend, itemsOk, Bool.and_self, if_pos, Out.bind_ok, binD, flagOf, biD, dsOf, List.map_cons, List.map_nil, List.all_cons, List.all_nil, intC, decide_eq_true hN]
  have e2 : ev O (.ite (.or_ (.cmp .lt (.bw 2) (.cst (.int 0))) (.cons (.cmp .ge (.bw 2) (.bin .pow (.cst (.int 10)) (.cst (.int 18)))) .nil)) (.bi .abs (.cons (.bw 2) .nil)) (.cst (.int 0))) [some (scrD (ns.map .int), 0), some (.int lap, 0), some (.int o, 0), some (.int s, 0), x] = .ok (.int (if o < 0 ∨ 10 ^ 18 ≤ o then (if o < 0 then -o else o) else 0), .own 0) [some (scrD (ns.map .int), 0), some (.int lap, 0), some (.int o, 0), some (.int s, 0), x] := by
    have hp : binD .pow (.int 10) (.int 18) = some (.int 1000000000000000000) := (pow_ok 10 18 (by omega) (by decide)).trans rfl
    have hp2 : (10 : Int) ^ 18 = 1000000000000000000 := rfl
    rw [hp2]
    by_cases h : o < 0
    · simp [ev, evL, rdBw, pend, muE, itemsOk, cmpD, ordF, okB, h, biD, dsOf, absD, flagOf]
    · by_cases h' : o < 1000000000000000000
      · have h3 : ¬ (1000000000000000000 : Int) ≤ o := by omega
        simp [ev, evL, evOr, rdBw, pend, muE, itemsOk, cmpD, ordF, okB, h, h', h3, hp, flagOf]
      · have h3 : (1000000000000000000 : Int) ≤ o := by omega
        simp [ev, evL, evOr, rdBw, pend, muE, itemsOk, cmpD, ordF, okB, h, h', h3, hp, flagOf, biD, dsOf, absD]
  rw [poolR, ev, evL, e1]
  simp only [Out.bind_ok]
  rw [evL, e2]
  simp [evL, ev, pend, keepK, keepItem, lf, dsOf, pool]
end QQ
namespace QQ
open PySem L2
/-- f draws a number below the one asked -/
def DrawOk (C : Orc) (f : Nat) : Prop := ∀ (a b c m : Int), 0 < m ∧ m < 1073741824 → ∃ d a' b' c', C.fn f [pool a b c, .int m] = .ret (.int d) 0 [pool a' b' c'] ∧ 0 ≤ d ∧ d < m
theorem ev_draw {C : Orc} {f i : Nat} {e : E} {en : En} {a b c m : Int} (hd : DrawOk C f) (h0 : en[i]? = some (some (pool a b c, 1))) (he : ev C e en = .ok (.int m, .own 0) en) (hmu : (muL (.cons e .nil)).contains i = false) (hm : 0 < m ∧ m < 1073741824) :
    ∃ (d : Nat) (a' b' c' : Int), ev C (.call f [1] (.cons (.bw i) (.cons e .nil)) []) en = .ok (.int d, .own 0) (en.set i (some (pool a' b' c', 1))) ∧ (d : Int) < m := by
  obtain ⟨d, a', b', c', q, h1, h2⟩ := hd a b c m hm
  have l3 : ∀ a b c : Int, lfs [PyData.int a, .int b, .int c] = true := fun a b c => rfl
  have ci := call_io (co := C.fn f) (bl := ioBl [1] (.cons (.bw i) (.cons e .nil))) (rs := [(.int m, .own 0)]) (by simp [ioBl, bwL]) h0 (l3 a b c) (l3 a' b' c') rfl q
  refine ⟨d.toNat, a', b', c', ?_, by omega⟩
  have e1 : ((d.toNat : Nat) : Int) = d := by omega
  rw [e1, ev, evL, ev, rdBw, h0]
  simp only [Out.bind_ok, evL, he]
  have p1 : pend (pool a b c, .root i (0 + 1) true) (muL (.cons e .nil)) = true := by
    simp only [pend, hmu]; rfl
  have p2 : pend (.int m, .own 0) (muL .nil) = true := rfl
  rw [if_pos p2]
  simp only [Out.bind_ok]
  rw [if_pos p1]
  exact ci
theorem ev_append {C : Orc} {i k : Nat} {e : E} {en e1 : En} {xs : List D} {d : D} (hl : isLst en i = true) (hm : (muL (.cons e .nil)).contains i = false) (he : ev C e en = .ok (d, .own k) e1) (h1 : e1[i]? = some (some (.list xs, 1))) (hx : xs.length < LIM) :
    ev C (.mu .append i (.cons e .nil)) en = .ok (.none, .own 0) (e1.set i (some (.list (xs ++ [d]), 1))) := by
  have hi : muIn .append 0 (d, .own k) = true := by
    simp [muIn, keepItem, keepK]
  have hmd : muD .append (.list xs) [d] = some (.none, .list (xs ++ [d])) := by
    simp only [muD]
    rw [if_pos hx]
  rw [ev, hl, hm, evL, he]
  simp only [Bool.not_false, Bool.and_self, if_pos, Out.bind_ok, evL, pend]
  rw [muR, h1]
  simp only [List.all_cons, List.all_nil, hi, Bool.and_self, if_pos, dsOf, List.map_cons, List.map_nil, hmd]
theorem ev_popAt {C : Orc} {i k j : Nat} {e : E} {en e1 : En} {xs : List D} (hl : isLst en i = true) (hm : (muL (.cons e .nil)).contains i = false) (he : ev C e en = .ok (.int j, .own k) e1) (h1 : e1[i]? = some (some (.list xs, 1))) (hj : j < xs.length) (hj2 : j < 1073741824) :
    ev C (.mu .popAt i (.cons e .nil)) en = .ok (xs[j], .own 0) (e1.set i (some (.list (xs.eraseIdx j), 1))) := by
  have hi : muIn .popAt 0 (.int j, .own k) = true := by
    simp [muIn, keepItem, keepK]
  have hmd : muD .popAt (.list xs) [.int j] = some (xs[j], .list (xs.eraseIdx j)) := by
    have h1 : (0 : Int) ≤ j := by omega
    have h2 : (j : Int) < 2 ^ 62 := by omega
    simp only [muD]
    rw [if_pos (by rw [decide_eq_true h1, decide_eq_true h2]; rfl)]
    simp [hj]
  rw [ev, hl, hm, evL, he]
  simp only [Bool.not_false, Bool.and_self, if_pos, Out.bind_ok, evL, pend]
  rw [muR, h1]
  simp only [List.all_cons, List.all_nil, hi, Bool.and_self, if_pos, dsOf, List.map_cons, List.map_nil, hmd]
theorem ex_ex {C : Orc} {W : Nat} {e : E} {en e1 : En} {r : D × Kd} (h : ev C e en = .ok r e1) : ex C W (.ex e) en = .ok .nx e1 := by
  rw [ex, h]
  rfl
/-- the length of a list that the slot owns -/
theorem ev_len1 {C : Orc} {i : Nat} {en : En} {xs : List D} (h : en[i]? = some (some (.list xs, 1))) : ev C (.bi .len (.cons (.bw i) .nil)) en = .ok (.int xs.length, .own 0) en := by
  simp [ev, evL, rdBw, h, pend, muL, itemsOk, biD, dsOf, lenD, flagOf]
theorem ev_len0 {C : Orc} {i : Nat} {en : En} {xs : List D} (h : en[i]? = some (some (.tuple xs, 0))) : ev C (.bi .len (.cons (.bw i) .nil)) en = .ok (.int xs.length, .own 0) en := by
  simp [ev, evL, rdBw, h, pend, muL, itemsOk, biD, dsOf, lenD, flagOf]
theorem ev_bw0 {C : Orc} {i : Nat} {en : En} {d : D} (h : en[i]? = some (some (d, 0))) : ev C (.bw i) en = .ok (d, .own 0) en := by
  simp [ev, rdBw, h]
theorem map_erase {α β : Type} (f : α → β) : ∀ (xs : List α) (k : Nat), (xs.map f).eraseIdx k = (xs.eraseIdx k).map f
  | [], _ => rfl
  | x :: xs, 0 => rfl
  | x :: xs, k + 1 => by simp [map_erase f xs k]
theorem perm_erase {α : Type} : ∀ (xs : List α) (k : Nat) (h : k < xs.length), (xs[k] :: xs.eraseIdx k).Perm xs
  | x :: xs, 0, _ => List.Perm.refl _
  | x :: xs, k + 1, h => by
    have := perm_erase xs k (by simpa using h)
    exact (List.Perm.swap x _ _).trans (List.Perm.cons x this)
/-- f draws an order -/
def OrderOk (C : Orc) (f : Nat) : Prop := ∀ (a b c : Int) (m : Nat), m ≤ 10000 → ∃ (ns : List Int) (a' b' c' : Int), C.fn f [pool a b c, .int m] = .ret (.tuple (ns.map .int)) 0 [pool a' b' c'] ∧ ns.Perm (rangeI m)
def orderB (fd : Nat) : SL := (.cons (.ex (.mu .append 3 (.cons (.mu .popAt 2 (.cons (.call fd [1] (.cons (.bw 0) (.cons (.bi .len (.cons (.bw 2) .nil)) .nil)) []) .nil)) .nil))) .nil)
def orderF (fd : Nat) : FD := { np := 2, ns := 5, io := [1], body := (.cons (.par [2, 3] (.cons (.rngl false (.cons (.bw 1) .nil)) (.cons (.lst 1 .nil) .nil))) (.cons (.for_ (.nm 4) (.rng (.cons (.bw 1) .nil)) (orderB fd)) (.cons (.ret (.bi .tuple (.cons (.bw 3) .nil))) .nil))) }
theorem order_ok {C : Orc} {fd : Nat} (hd : DrawOk C fd) (a b c : Int) (m : Nat) (hm : m ≤ 10000) : ∃ (ns : List Int) (a' b' c' : Int), runD C 1 (orderF fd) [pool a b c, .int m] = .ret (.tuple (ns.map .int)) 0 [pool a' b' c'] ∧ ns.Perm (rangeI m) := by
  have hr := range_len hm
  have hbw : ∀ {en : En}, en[1]? = some (some (.int m, 0)) → evL C (.cons (.bw 1) .nil) en = .ok [(.int m, .own 0)] en := fun {en} h => by
    rw [evL, ev_bw0 h]
    rfl
  have h1 : ex C 1 (.par [2, 3] (.cons (.rngl false (.cons (.bw 1) .nil)) (.cons (.lst 1 .nil) .nil))) [some (pool a b c, 1), some (.int m, 0), none, none, none] = .ok .nx [some (pool a b c, 1), some (.int m, 0), some (.list ((rangeI m).map .int), 1), some (.list [], 1), none] := by
    rw [ex, evL, ev_rngl (hbw rfl) hr]
    simp [evL, ev, pend, ownK, asgNs, asgN, keepK, flagOf, opt, dsOf]
  have hit : evI C (.rng (.cons (.bw 1) .nil)) [some (pool a b c, 1), some (.int m, 0), some (.list ((rangeI m).map .int), 1), some (.list [], 1), none] = .ok ((rangeI m).map .int, []) [some (pool a b c, 1), some (.int m, 0), some (.list ((rangeI m).map .int), 1), some (.list [], 1), none] := evI_rng (hbw rfl) hr
  have hl := forL_inv (f := fun d e => match bindP (.nm 4) d e with
        | some e' => exs C 1 (orderB fd) e'
        | none => .stuck) (fun ds e => ∃ (a b c : Int) (L F : List Int) (x : Sl), e = [some (pool a b c, 1), some (.int m, 0), some (.list (L.map .int), 1), some (.list (F.map .int), 1), x] ∧ L.length = ds.length ∧ (L ++ F).Perm (rangeI m)) ((rangeI m).map .int) [some (pool a b c, 1), some (.int m, 0), some (.list ((rangeI m).map .int), 1), some (.list [], 1), none] (fun d r e hI => by
    obtain ⟨a, b, c, L, F, x, he, hL, hp⟩ := hI
    subst he
    have hlen := hp.length_eq
    rw [List.length_append, length_rangeI] at hlen
    have h0 : L.length = r.length + 1 := by simpa using hL
    obtain ⟨k, a', b', c', q, hk⟩ := ev_draw (C := C) (f := fd) (i := 0) (e := .bi .len (.cons (.bw 2) .nil)) (en := [some (pool a b c, 1), some (.int m, 0), some (.list (L.map .int), 1), some (.list (F.map .int), 1), some (d, 0)]) (m := (L.map PyData.int).length) hd rfl (ev_len1 rfl) rfl (by simp; omega)
    have hk' : k < L.length := by simpa using hk
    have q2 := ev_popAt (i := 2) (xs := L.map .int) rfl (by rfl) q rfl (by simpa using hk') (by omega)
    have q3 := ev_append (C := C) (i := 3) (xs := F.map .int) rfl (by rfl) q2 rfl (by simp; rw [LIM_eq]; omega)
    refine ⟨[some (pool a' b' c', 1), some (.int m, 0), some (.list ((L.eraseIdx k).map .int), 1), some (.list ((F ++ [L[k]]).map .int), 1), some (d, 0)], ?_, a', b', c', L.eraseIdx k, F ++ [L[k]], some (d, 0), rfl, ?_, ?_⟩
    · refine (exs_nx (ex_ex q3)).trans ?_
      have e1 : (L.map PyData.int).eraseIdx k = (L.eraseIdx k).map PyData.int := map_erase ..
      simp [exs, e1]
    · rw [List.length_eraseIdx_of_lt hk']; omega
    · have p1 : (L[k] :: L.eraseIdx k).Perm L := perm_erase _ _ hk'
      refine List.Perm.trans ?_ hp
      refine List.Perm.trans ?_ (p1.append_right F)
      rw [List.cons_append, ← List.append_assoc]
      exact List.perm_append_comm.trans (List.Perm.refl _)) ⟨a, b, c, rangeI m, [], none, rfl, by simp, by simp⟩
  obtain ⟨e', hl, a', b', c', L, F, x, he, hL, hp⟩ := hl
  subst he
  have hLn : L = [] := List.eq_nil_of_length_eq_zero hL
  subst hLn
  refine ⟨F, a', b', c', run_of (e1 := [some (pool a' b' c', 1), some (.int m, 0), some (.list [], 1), some (.list (F.map .int), 1), x]) rfl ?_ rfl, by simpa using hp⟩
  refine (exs_nx h1).trans ((exs_nx ((ex_for hit rfl).trans hl)).trans (exs_rt (ex_ret ?_)))
  simp [ev, evL, rdBw, pend, muL, itemsOk, biD, dsOf, tupC, flagOf]

/-! ### races -/
/-- a call that changes its pool -/
theorem ev_io {C : Orc} {f i k kx : Nat} {e : E} {en : En} {a b c a' b' c' : Int} {x d : D} (q : C.fn f [pool a b c, x] = .ret d k [pool a' b' c']) (h0 : en[i]? = some (some (pool a b c, 1))) (he : ev C e en = .ok (x, .own kx) en) (hmu : (muL (.cons e .nil)).contains i = false) :
    ev C (.call f [1] (.cons (.bw i) (.cons e .nil)) []) en = .ok (d, .own k) (en.set i (some (pool a' b' c', 1))) := by
  have l3 : ∀ a b c : Int, lfs [PyData.int a, .int b, .int c] = true := fun a b c => rfl
  have ci := call_io (co := C.fn f) (bl := ioBl [1] (.cons (.bw i) (.cons e .nil))) (rs := [(x, .own kx)]) (by simp [ioBl, bwL]) h0 (l3 a b c) (l3 a' b' c') rfl q
  rw [ev, evL, ev, rdBw, h0]
  simp only [Out.bind_ok, evL, he]
  have p1 : pend (pool a b c, .root i (0 + 1) true) (muL (.cons e .nil)) = true := by
    simp only [pend, hmu]; rfl
  have p2 : pend (x, .own kx) (muL .nil) = true := rfl
  rw [if_pos p2]
  simp only [Out.bind_ok]
  rw [if_pos p1]
  exact ci
theorem getD_nat_l (xs : List D) (k : Nat) (h : k < xs.length) : getD (.list xs) (.int k) = some xs[k] := at_nat xs k h
theorem getD_nat_t (xs : List D) (k : Nat) (h : k < xs.length) : getD (.tuple xs) (.int k) = some xs[k] := at_nat xs k h
theorem setD_nat (xs : List D) (k : Nat) (v : D) (h : k < xs.length) : setD (.list xs) (.int k) v = some (.list (xs.set k v)) := by
  have h1 : (0 : Int) ≤ k := by omega
  have h2 : (k : Int) < xs.length := by omega
  show (L2.ixN xs.length (k : Int)).bind (fun j => if j < xs.length then some (PyData.list (xs.set j v)) else none) = _
  unfold L2.ixN
  rw [if_pos h1, if_pos h2]
  simp [h]
/-- x[k] of a list of whole numbers that the slot owns -/
theorem ev_ix1 {C : Orc} {i : Nat} {e : E} {en : En} {E : List Int} {k : Nat} (h : en[i]? = some (some (.list (E.map .int), 1))) (he : ev C e en = .ok (.int k, .own 0) en) (hmu : (muE e).contains i = false) (hk : k < E.length) : ev C (.ix (.bw i) e) en = .ok (.int E[k], .own 0) en := by
  have g := getD_nat_l (E.map .int) k (by simpa using hk)
  rw [ev, ev, rdBw, h]
  simp only [Out.bind_ok, he]
  have p : pend (.list (E.map .int), .root i (0 + 1) true) (muE e) = true := by
    simp only [pend, hmu]; rfl
  rw [if_pos p]
  simp only [ixR, g]
  simp [itemK, lf]
theorem ev_ix0 {C : Orc} {i : Nat} {e : E} {en : En} {xs : List D} {k : Nat} (h : en[i]? = some (some (.tuple xs, 0))) (he : ev C e en = .ok (.int k, .own 0) en) (hk : k < xs.length) : ev C (.ix (.bw i) e) en = .ok (xs[k], .own 0) en := by
  have g := getD_nat_t xs k hk
  rw [ev, ev, rdBw, h]
  simp only [Out.bind_ok, he]
  have p : pend (.tuple xs, .own 0) (muE e) = true := rfl
  rw [if_pos p]
  simp only [ixR, g]
  simp [itemK]
def RaceOk (C : Orc) (f : Nat) : Prop := ∀ (a b c : Int) (m : Nat), 1 ≤ m → m ≤ 1000 → ∃ (ns ms : List Int) (a' b' c' : Int), C.fn f [pool a b c, .int m] = .ret (.tuple [.tuple (ns.map .int), .tuple (ms.map .int)]) 0 [pool a' b' c'] ∧ ns.Perm (rangeI m) ∧ ms.Perm (rangeI m)
def swapS : S := (.asgm [(.sub 3 (.cons (.bw 5) .nil)), (.sub 3 (.cons (.bin .add (.bw 5) (.cst (.int 1))) .nil))] (.tup (.cons (.ix (.bw 3) (.bin .add (.bw 5) (.cst (.int 1)))) (.cons (.ix (.bw 3) (.bw 5)) .nil))))
def raceB (fd : Nat) : SL := (.cons (.asg (.nm 5) (.call fd [1] (.cons (.bw 0) (.cons (.bin .sub (.bw 1) (.cst (.int 1))) .nil)) [])) (.cons swapS .nil))
def raceC (fd : Nat) : E := (.or_ (.cmp .gt (.call fd [1] (.cons (.bw 0) (.cons (.cst (.int 3)) .nil)) []) (.cst (.int 0))) (.cons (.cmp .eq (.bw 1) (.cst (.int 1))) .nil))
def raceF (fd fo : Nat) : FD := { np := 2, ns := 6, io := [1], body := (.cons (.asg (.nm 2) (.call fo [1] (.cons (.bw 0) (.cons (.bw 1) .nil)) [])) (.cons (.ite (raceC fd) (.cons (.ret (.tup (.cons (.var 2) (.cons (.call fo [1] (.cons (.bw 0) (.cons (.bw 1) .nil)) []) .nil)))) .nil) .nil) (.cons (.asg (.nm 3) (.bi .list (.cons (.bw 2) .nil))) (.cons (.for_ (.nm 4) (.rng (.cons (.call fd [1] (.cons (.bw 0) (.cons (.bin .mul (.cst (.int 2)) (.bw 1)) .nil)) []) .nil)) (raceB fd)) (.cons (.ret (.tup (.cons (.var 2) (.cons (.bi .tuple (.cons (.bw 3) .nil)) .nil)))) .nil))))) }
theorem swap_ok {C : Orc} {s0 s1 s2 s4 : Sl} {F : List Int} {k : Nat} (hk : k + 1 < F.length) : ex C 1 swapS [s0, s1, s2, some (.list (F.map .int), 1), s4, some (.int k, 0)] = .ok .nx [s0, s1, s2, some (.list (((F.set k F[k + 1]).set (k + 1) F[k]).map .int), 1), s4, some (.int k, 0)] := by
  have hb : ∀ xs : List D, ev C (.bw 5) [s0, s1, s2, some (.list xs, 1), s4, some (.int k, 0)] = .ok (.int k, .own 0) [s0, s1, s2, some (.list xs, 1), s4, some (.int k, 0)] := fun xs => ev_bw0 rfl
  have ha : ∀ xs : List D, ev C (.bin .add (.bw 5) (.cst (.int 1))) [s0, s1, s2, some (.list xs, 1), s4, some (.int k, 0)] = .ok (.int ((k + 1 : Nat) : Int), .own 0) [s0, s1, s2, some (.list xs, 1), s4, some (.int k, 0)] := fun xs => by
    rw [ev, hb]
    simp [ev, pend, itemsOk, binD, flagOf]
  have i1 := ev_ix1 (C := C) (i := 3) (e := .bin .add (.bw 5) (.cst (.int 1))) (en := [s0, s1, s2, some (.list (F.map .int), 1), s4, some (.int k, 0)]) rfl (ha _) rfl hk
  have i2 := ev_ix1 (C := C) (i := 3) (e := .bw 5) (en := [s0, s1, s2, some (.list (F.map .int), 1), s4, some (.int k, 0)]) rfl (hb _) rfl (show k < F.length by omega)
  have g1 := setD_nat (F.map .int) k (.int F[k + 1]) (by simp; omega)
  have g2 := setD_nat ((F.map PyData.int).set k (.int F[k + 1])) (k + 1) (.int F[k]) (by simp; omega)
  have et : ev C (.tup (.cons (.ix (.bw 3) (.bin .add (.bw 5) (.cst (.int 1)))) (.cons (.ix (.bw 3) (.bw 5)) .nil))) [s0, s1, s2, some (.list (F.map .int), 1), s4, some (.int k, 0)] = .ok (.tuple [.int F[k + 1], .int F[k]], .own 0) [s0, s1, s2, some (.list (F.map .int), 1), s4, some (.int k, 0)] := by
    rw [ev, evL, i1]
    simp only [Out.bind_ok]
    rw [evL, i2]
    simp [evL, pend, keepK, dsOf]
  rw [swapS, ex, et]
  simp only [Out.bind_ok, keepK]
  rw [if_pos (show lfs _ = true from rfl), asgLV, if_pos (by rfl), evL, hb]
  simp only [Out.bind_ok, evL, pend, if_pos, dsOf, List.map_cons, List.map_nil]
  simp only [setS, List.getElem?_cons_succ, List.getElem?_cons_zero, setOk, List.length_cons, List.length_nil, lf, setP, g1, Option.map_some]
  simp only [Nat.zero_add, Nat.le_refl, decide_true, Bool.true_or, Bool.and_self, if_pos, List.set_cons_succ, List.set_cons_zero]
  rw [asgLV, if_pos (by rfl), evL, ha]
  simp only [Out.bind_ok, evL, pend, if_pos, dsOf, List.map_cons, List.map_nil]
  simp only [setS, List.getElem?_cons_succ, List.getElem?_cons_zero, setOk, List.length_cons, List.length_nil, lf, setP, g2, Option.map_some]
  simp only [Nat.zero_add, Nat.le_refl, decide_true, Bool.true_or, Bool.and_self, if_pos, List.set_cons_succ, List.set_cons_zero, asgLV, Out.bind_ok, List.map_set]
theorem race_ok {C : Orc} {fd fo : Nat} (hd : DrawOk C fd) (ho : OrderOk C fo) (a b c : Int) (m : Nat) (h1m : 1 ≤ m) (hm : m ≤ 1000) :
    ∃ (ns ms : List Int) (a' b' c' : Int), runD C 1 (raceF fd fo) [pool a b c, .int m] = .ret (.tuple [.tuple (ns.map .int), .tuple (ms.map .int)]) 0 [pool a' b' c'] ∧ ns.Perm (rangeI m) ∧ ms.Perm (rangeI m) := by
  obtain ⟨ns, a1, b1, c1, q1, hn⟩ := ho a b c m (by omega)
  have s1 : ex C 1 (.asg (.nm 2) (.call fo [1] (.cons (.bw 0) (.cons (.bw 1) .nil)) [])) [some (pool a b c, 1), some (.int m, 0), none, none, none, none] = .ok .nx [some (pool a1 b1 c1, 1), some (.int m, 0), some (.tuple (ns.map .int), 0), none, none, none] :=
    (ex_asg (ev_io (i := 0) (e := .bw 1) q1 rfl (ev_bw0 rfl) rfl) (by simp)).trans rfl
  obtain ⟨g, a2, b2, c2, q2, hg⟩ := ev_draw (C := C) (f := fd) (i := 0) (e := .cst (.int 3)) (en := [some (pool a1 b1 c1, 1), some (.int m, 0), some (.tuple (ns.map .int), 0), none, none, none]) (m := 3) hd rfl (by rfl) rfl (by omega)
  have sc : ev C (raceC fd) [some (pool a1 b1 c1, 1), some (.int m, 0), some (.tuple (ns.map .int), 0), none, none, none] = .ok (.bool (decide (0 < g ∨ m = 1)), .own 0) [some (pool a2 b2 c2, 1), some (.int m, 0), some (.tuple (ns.map .int), 0), none, none, none] := by
    rw [raceC, ev, ev, q2]
    by_cases hg0 : 0 < g
    · simp [ev, pend, cmpD, ordF, okB, hg0]
    · simp [ev, evOr, rdBw, pend, muE, cmpD, ordF, okB, hg0, shp_int, PyData.eqv]
      by_cases hm1 : m = 1
      · simp [hm1]
      · have : ¬ (m : Int) = 1 := by omega
        simp [hm1, this]
  by_cases hc : 0 < g ∨ m = 1
  · obtain ⟨ms, a3, b3, c3, q3, hms⟩ := ho a2 b2 c2 m (by omega)
    refine ⟨ns, ms, a3, b3, c3, run_of (e1 := [some (pool a3 b3 c3, 1), some (.int m, 0), some (.tuple (ns.map .int), 0), none, none, none]) rfl ?_ rfl, hn, hms⟩
    refine (exs_nx s1).trans (exs_rt ?_)
    rw [ex_ite sc, if_pos (decide_eq_true hc)]
    refine exs_rt (ex_ret ?_)
    have q4 := ev_io (C := C) (i := 0) (e := .bw 1) (en := [some (pool a2 b2 c2, 1), some (.int m, 0), some (.tuple (ns.map .int), 0), none, none, none]) q3 rfl (ev_bw0 rfl) rfl
    rw [ev, evL, ev, rdVar]
    simp only [List.getElem?_cons_succ, List.getElem?_cons_zero, Out.bind_ok]
    rw [evL, q4]
    simp [evL, pend, keepK, dsOf]
  · have hm2 : 2 ≤ m := by omega
    have s2 : ex C 1 (.ite (raceC fd) (.cons (.ret (.tup (.cons (.var 2) (.cons (.call fo [1] (.cons (.bw 0) (.cons (.bw 1) .nil)) []) .nil)))) .nil) .nil) [some (pool a1 b1 c1, 1), some (.int m, 0), some (.tuple (ns.map .int), 0), none, none, none] = .ok .nx [some (pool a2 b2 c2, 1), some (.int m, 0), some (.tuple (ns.map .int), 0), none, none, none] := by
      rw [ex_ite sc, if_neg (by simpa using hc)]
      rfl
    have s3 : ex C 1 (.asg (.nm 3) (.bi .list (.cons (.bw 2) .nil))) [some (pool a2 b2 c2, 1), some (.int m, 0), some (.tuple (ns.map .int), 0), none, none, none] = .ok .nx [some (pool a2 b2 c2, 1), some (.int m, 0), some (.tuple (ns.map .int), 0), some (.list (ns.map .int), 1), none, none] := by
      refine (ex_asg (d := .list (ns.map .int)) (k := 1) (e1 := [some (pool a2 b2 c2, 1), some (.int m, 0), some (.tuple (ns.map .int), 0), none, none, none]) ?_ (by simp)).trans rfl
      simp [ev, evL, rdBw, pend, itemsOk, biD, dsOf, lstC, flagOf]
    obtain ⟨z, a3, b3, c3, q3, hz⟩ := ev_draw (C := C) (f := fd) (i := 0) (e := .bin .mul (.cst (.int 2)) (.bw 1)) (en := [some (pool a2 b2 c2, 1), some (.int m, 0), some (.tuple (ns.map .int), 0), some (.list (ns.map .int), 1), none, none]) (m := 2 * m) hd rfl (by
      have := mul_ok' 2 m (by omega)
      simp [ev, rdBw, pend, itemsOk, this, flagOf]) rfl (by omega)
    have hit : evI C (.rng (.cons (.call fd [1] (.cons (.bw 0) (.cons (.bin .mul (.cst (.int 2)) (.bw 1)) .nil)) []) .nil)) [some (pool a2 b2 c2, 1), some (.int m, 0), some (.tuple (ns.map .int), 0), some (.list (ns.map .int), 1), none, none] = .ok ((rangeI z).map .int, []) [some (pool a3 b3 c3, 1), some (.int m, 0), some (.tuple (ns.map .int), 0), some (.list (ns.map .int), 1), none, none] := by
      refine evI_rng (rs := [(.int z, .own 0)]) ?_ (range_len (by omega))
      rw [evL, q3]
      rfl
    have hl := forL_inv (f := fun d e => match bindP (.nm 4) d e with
          | some e' => exs C 1 (raceB fd) e'
          | none => .stuck) (fun ds e => ∃ (a b c : Int) (F : List Int) (x y : Sl), e = [some (pool a b c, 1), some (.int m, 0), some (.tuple (ns.map .int), 0), some (.list (F.map .int), 1), x, y] ∧ F.Perm (rangeI m)) ((rangeI z).map .int) [some (pool a3 b3 c3, 1), some (.int m, 0), some (.tuple (ns.map .int), 0), some (.list (ns.map .int), 1), none, none] (fun d r e hI => by
      obtain ⟨a, b, c, F, x, y, he, hp⟩ := hI
      subst he
      have hlen : F.length = m := by rw [hp.length_eq, length_rangeI]
      obtain ⟨k, a', b', c', q, hk⟩ := ev_draw (C := C) (f := fd) (i := 0) (e := .bin .sub (.bw 1) (.cst (.int 1))) (en := [some (pool a b c, 1), some (.int m, 0), some (.tuple (ns.map .int), 0), some (.list (F.map .int), 1), some (d, 0), y]) (m := (m : Int) - 1) hd rfl (by simp [ev, rdBw, pend, itemsOk, binD, flagOf]) rfl (by omega)
      have hk1 : k + 1 < F.length := by omega
      refine ⟨[some (pool a' b' c', 1), some (.int m, 0), some (.tuple (ns.map .int), 0), some (.list (((F.set k F[k + 1]).set (k + 1) F[k]).map .int), 1), some (d, 0), some (.int k, 0)], ?_, a', b', c', _, _, _, rfl, List.Perm.trans (List.set_set_perm (show k < F.length by omega) hk1) hp⟩
      exact (exs_nx ((ex_asg q (by simp)).trans rfl)).trans ((exs_nx (swap_ok hk1)).trans rfl)) ⟨a3, b3, c3, ns, none, none, rfl, hn⟩
    obtain ⟨e', hl, a4, b4, c4, F, x, y, he, hp⟩ := hl
    subst he
    refine ⟨ns, F, a4, b4, c4, run_of (e1 := [some (pool a4 b4 c4, 1), some (.int m, 0), some (.tuple (ns.map .int), 0), some (.list (F.map .int), 1), x, y]) rfl ?_ rfl, hn, hp⟩
    refine (exs_nx s1).trans ((exs_nx s2).trans ((exs_nx s3).trans ((exs_nx ((ex_for hit rfl).trans hl)).trans (exs_rt (ex_ret ?_)))))
    simp [ev, evL, rdVar, rdBw, pend, muL, itemsOk, biD, dsOf, tupC, flagOf, keepK]
end QQ
namespace QQ
open PySem L2
def Out.P {α : Type} (Q : α → En → Prop) (X : D → En → Prop) : Out α → Prop
  | .ok a e => Q a e
  | .exc x e => X x e
  | .stuck => False
theorem Out.P_bind {α β : Type} {o : Out α} {f : α → En → Out β} {Q : β → En → Prop} {X : D → En → Prop} (h : o.P (fun a e => (f a e).P Q X) X) : (o.bind f).P Q X := by
  cases o with
  | ok a e => exact h
  | exc x e => exact h
  | stuck => exact h
theorem Out.P_mono {α : Type} {o : Out α} {Q Q' : α → En → Prop} {X X' : D → En → Prop} (h : o.P Q X) (k : ∀ a e, Q a e → Q' a e) (kx : ∀ a e, X a e → X' a e) : o.P Q' X' := by
  cases o with
  | ok a e => exact k _ _ h
  | exc x e => exact kx _ _ h
  | stuck => exact h
def KP (co : CO) (Q : D → Nat → List D → Prop) (X : D → List D → Prop) : Prop := match co with
  | .ret d k ios => Q d k ios
  | .exc x ios => X x ios
  | .stuck => False
def NoX : D → En → Prop := fun _ _ => False
def NoC : D → List D → Prop := fun _ _ => False
theorem KP.mono {co : CO} {Q Q' : D → Nat → List D → Prop} {X X' : D → List D → Prop} (h : KP co Q X) (k : ∀ d n ios, Q d n ios → Q' d n ios) (kx : ∀ x ios, X x ios → X' x ios) : KP co Q' X' := by
  cases co with
  | ret d n ios => exact k _ _ _ h
  | exc x ios => exact kx _ _ h
  | stuck => exact h
theorem KP.eq {co : CO} {Q : D → Nat → List D → Prop} {X : D → List D → Prop} {d : D} {k : Nat} {ios : List D} (h : co = .ret d k ios) (q : Q d k ios) : KP co Q X := by rw [h]; exact q
theorem KP.get {co : CO} {d : D} {k : Nat} {ios : List D} (h : KP co (fun d' k' ios' => d' = d ∧ k' = k ∧ ios' = ios) NoC) : co = .ret d k ios := by
  cases co with
  | ret d n ios => obtain ⟨a, b, c⟩ := h; subst a b c; rfl
  | exc x ios => exact h.elim
  | stuck => exact h.elim

/-! ### the judgements -/
def EP (C : Orc) (e : E) (en : En) (Q : D → Kd → En → Prop) (X : D → En → Prop) : Prop := (ev C e en).P (fun r e1 => Q r.1 r.2 e1) X
def LP (C : Orc) (es : EL) (en : En) (Q : List D → List Kd → En → Prop) (X : D → En → Prop) : Prop := (evL C es en).P (fun rs e => Q (dsOf rs) (rs.map Prod.snd) e) X
theorem zip_fs : ∀ rs : List (D × Kd), (dsOf rs).zip (rs.map Prod.snd) = rs
  | [] => rfl
  | r :: rs => by
    show (r.1, r.2) :: (dsOf rs).zip (rs.map Prod.snd) = _
    rw [zip_fs rs]
theorem LP.get {C : Orc} {es : EL} {en : En} {Q : List D → List Kd → En → Prop} {X : D → En → Prop} {Q' : List (D × Kd) → En → Prop} (h : LP C es en (fun ds ks e => Q' (ds.zip ks) e) X) : (evL C es en).P Q' X := by
  unfold LP at h
  refine Out.P_mono h (fun rs e h => ?_) fun _ _ h => h
  simp only [zip_fs] at h
  exact h
theorem dsOf_zip : ∀ {ds : List D} {ks : List Kd}, ds.length = ks.length → dsOf (ds.zip ks) = ds
  | [], _, _ => rfl
  | d :: ds, [], h => by simp at h
  | d :: ds, k :: ks, h => by
    show d :: dsOf (ds.zip ks) = _
    rw [dsOf_zip (by simpa using h)]
def AP (C : Orc) (es : EL) (en : En) (Q : D → Kd → En → Prop) (X : D → En → Prop) : Prop := (evAnd C es en).P (fun r e1 => Q r.1 r.2 e1) X
def OP (C : Orc) (es : EL) (en : En) (Q : D → Kd → En → Prop) (X : D → En → Prop) : Prop := (evOr C es en).P (fun r e1 => Q r.1 r.2 e1) X
def TP (C : Orc) (es : EL) (en : En) (Q : Bool → En → Prop) (X : D → En → Prop) : Prop := (evAnd1 C es en).P Q X
def BP (C : Orc) (e : E) (en : En) (Q : Bool → En → Prop) (X : D → En → Prop) : Prop := (evB C e en).P Q X
def PP (C : Orc) (e : OE) (en : En) (Q : Option Int → En → Prop) (X : D → En → Prop) : Prop := (evO C e en).P Q X
def IP (C : Orc) (it : IT) (en : En) (Q : List D → List Nat → En → Prop) (X : D → En → Prop) : Prop := (evI C it en).P (fun r e1 => Q r.1 r.2 e1) X
def FlQ (N : En → Prop) (R : D → Nat → En → Prop) (f : Fl) (e : En) : Prop := match f with
  | .nx => N e
  | .rt d k => R d k e
def SP (C : Orc) (W : Nat) (s : S) (en : En) (N : En → Prop) (R : D → Nat → En → Prop) (X : D → En → Prop) : Prop := (ex C W s en).P (FlQ N R) X
def SsP (C : Orc) (W : Nat) (s : SL) (en : En) (N : En → Prop) (R : D → Nat → En → Prop) (X : D → En → Prop) : Prop := (exs C W s en).P (FlQ N R) X
/-- small conditions -/
def Chk (b : Bool) (P : Prop) : Prop := b = true ∧ P
theorem Chk.mk {b : Bool} {P : Prop} (h : b = true) (p : P) : Chk b P := ⟨h, p⟩
def OptP (o : Option D) (R : D → Prop) : Prop := ∃ d, o = some d ∧ R d
theorem OptP.mk {o : Option D} {R : D → Prop} {d : D} (h : o = some d) (r : R d) : OptP o R := ⟨d, h, r⟩
def OptB (o : Option Bool) (R : Bool → Prop) : Prop := ∃ d, o = some d ∧ R d
theorem OptB.mk {o : Option Bool} {R : Bool → Prop} {d : Bool} (h : o = some d) (r : R d) : OptB o R := ⟨d, h, r⟩
def OptL (o : Option (List D)) (R : List D → Prop) : Prop := ∃ d, o = some d ∧ R d
theorem OptL.mk {o : Option (List D)} {R : List D → Prop} {d : List D} (h : o = some d) (r : R d) : OptL o R := ⟨d, h, r⟩
def BoolP (d : D) (R : Bool → Prop) : Prop := ∃ b, d = .bool b ∧ R b
theorem BoolP.mk {b : Bool} {R : Bool → Prop} (r : R b) : BoolP (.bool b) R := ⟨b, rfl, r⟩
def IntP (d : D) (R : Int → Prop) : Prop := ∃ b, d = .int b ∧ R b
theorem IntP.mk {b : Int} {R : Int → Prop} (r : R b) : IntP (.int b) R := ⟨b, rfl, r⟩
def IfP (t : Bool) (A B : Prop) : Prop := (t = true → A) ∧ (t = false → B)
theorem IfP.t {A B : Prop} (h : A) : IfP true A B := ⟨fun _ => h, fun z => (nomatch z)⟩
theorem IfP.f {A B : Prop} (h : B) : IfP false A B := ⟨fun z => (nomatch z), fun _ => h⟩
theorem IfP.not {t : Bool} {A B : Prop} (h : IfP t B A) : IfP (!t) A B := by
  cases t
  · exact .t (h.2 rfl)
  · exact .f (h.1 rfl)
theorem IfP.dec {p : Prop} [Decidable p] {A B : Prop} (h1 : p → A) (h2 : ¬ p → B) : IfP (decide p) A B := ⟨fun h => h1 (of_decide_eq_true h), fun h => h2 (of_decide_eq_false h)⟩
theorem IfP.mk {t : Bool} {A B : Prop} (h1 : t = true → A) (h2 : t = false → B) : IfP t A B := ⟨h1, h2⟩
/-- the flag of a new value -/
def FgP (d : D) (R : Nat → Prop) : Prop := R (flagOf d 1)
theorem FgP.i {i : Int} {R : Nat → Prop} (h : R 0) : FgP (.int i) R := h
theorem FgP.b {i : Bool} {R : Nat → Prop} (h : R 0) : FgP (.bool i) R := h
theorem FgP.s {i : Str} {R : Nat → Prop} (h : R 0) : FgP (.str i) R := h
theorem FgP.t {i : List D} {R : Nat → Prop} (h : R 0) : FgP (.tuple i) R := h
theorem FgP.l {i : List D} {R : Nat → Prop} (h : R 1) : FgP (.list i) R := h
theorem FgP.any {d : D} {R : Nat → Prop} (h : R (flagOf d 1)) : FgP d R := h
/-- whose an item is -/
def KdP (r : D × Kd) (d : D) (R : Kd → Prop) : Prop := R (itemK r d)
theorem KdP.o {x d : D} {n : Nat} {R : Kd → Prop} (h : R (.own 0)) : KdP (x, .own n) d R := h
theorem KdP.l1 {xs : List D} {d : D} {i : Nat} {w : Bool} {R : Kd → Prop} (h : R (.own 0)) : KdP (.list xs, .root i 1 w) d R := by
  unfold KdP itemK
  simp only
  split
  · exact h
  · exact h
theorem KdP.lf {x d : D} {i m : Nat} {w : Bool} {R : Kd → Prop} (f : lf d = true) (h : R (.own 0)) : KdP (x, .root i m w) d R := by
  unfold KdP itemK
  simp only [f, if_pos]
  exact h
/-- a slot is set -/
def SetP (en : En) (i : Nat) (x : Sl) (R : En → Prop) : Prop := i < en.length ∧ R (en.set i x)
theorem SetP.z {a x : Sl} {as : En} {R : En → Prop} (h : R (x :: as)) : SetP (a :: as) 0 x R := ⟨by simp, h⟩
theorem SetP.s {a x : Sl} {as : En} {n : Nat} {R : En → Prop} (h : SetP as n x fun bs => R (a :: bs)) : SetP (a :: as) (n + 1) x R := ⟨by have := h.1; simp; omega, h.2⟩
/-- some slots are emptied -/
def WipeP (en : En) (is : List Nat) (R : En → Prop) : Prop := R (wipeE en is)
theorem WipeP.n {en : En} {R : En → Prop} (h : R en) : WipeP en [] R := h
theorem WipeP.c {en : En} {i : Nat} {is : List Nat} {R : En → Prop} (h : WipeP en is fun e => SetP e i none R) : WipeP en (i :: is) R := h.2
/-- the flag of a kept value -/
def FlagP (d : D) (k : Kd) (R : Nat → Prop) : Prop := ∃ n, keepK (d, k) = some n ∧ R (flagOf d n)
theorem flag0 (d : D) : flagOf d 0 = 0 := by cases d <;> rfl
theorem FlagP.o0 {d : D} {R : Nat → Prop} (h : R 0) : FlagP d (.own 0) R := ⟨0, rfl, by rw [flag0]; exact h⟩
theorem FlagP.l {xs : List D} {n : Nat} {R : Nat → Prop} (h : R n) : FlagP (.list xs) (.own n) R := ⟨n, rfl, h⟩
theorem FlagP.i {i : Int} {n : Nat} {R : Nat → Prop} (h : R 0) : FlagP (.int i) (.own n) R := ⟨n, rfl, h⟩
theorem FlagP.b {i : Bool} {n : Nat} {R : Nat → Prop} (h : R 0) : FlagP (.bool i) (.own n) R := ⟨n, rfl, h⟩
theorem FlagP.t {xs : List D} {n : Nat} {R : Nat → Prop} (h : R 0) : FlagP (.tuple xs) (.own n) R := ⟨n, rfl, h⟩
theorem FlagP.s {xs : Str} {n : Nat} {R : Nat → Prop} (h : R 0) : FlagP (.str xs) (.own n) R := ⟨n, rfl, h⟩
theorem FlagP.r {d : D} {i m : Nat} {w : Bool} {R : Nat → Prop} (h : lf d = true) (q : R 0) : FlagP d (.root i m w) R := ⟨0, by simp [keepK, h], by rw [flag0]; exact q⟩
/-- what is handed back -/
def KeepP (d : D) (k : Kd) (R : Nat → Prop) : Prop := ∃ n, keepK (d, k) = some n ∧ R n
theorem KeepP.o {d : D} {n : Nat} {R : Nat → Prop} (h : R n) : KeepP d (.own n) R := ⟨n, rfl, h⟩
theorem KeepP.r {d : D} {i m : Nat} {w : Bool} {R : Nat → Prop} (h : lf d = true) (q : R 0) : KeepP d (.root i m w) R := ⟨0, by simp [keepK, h], q⟩
def bwK (i : Nat) : Nat → Kd
  | 0 => .own 0
  | n + 1 => .root i (n + 1) true

variable {C : Orc} {W : Nat} {en : En} {X : D → En → Prop}
section ex
variable {Q : D → Kd → En → Prop}
theorem EP.cst {d : D} (h : Q d (.own 0) en) : EP C (.cst d) en Q X := h
theorem EP.bw {i n : Nat} {d : D} (g : en[i]? = some (some (d, n))) (h : Q d (bwK i n) en) : EP C (.bw i) en Q X := by
  unfold EP
  rw [ev, rdBw, g]
  cases n with
  | zero => exact h
  | succ n => exact h
theorem EP.bw0 {i : Nat} {d : D} (g : en[i]? = some (some (d, 0))) (h : Q d (.own 0) en) : EP C (.bw i) en Q X := EP.bw g h
theorem EP.bw1 {i : Nat} {d : D} (g : en[i]? = some (some (d, 1))) (h : Q d (.root i 1 true) en) : EP C (.bw i) en Q X := EP.bw g h
theorem EP.bw2 {i : Nat} {d : D} (g : en[i]? = some (some (d, 2))) (h : Q d (.root i 2 true) en) : EP C (.bw i) en Q X := EP.bw g h
theorem EP.var0 {i : Nat} {d : D} (g : en[i]? = some (some (d, 0))) (h : Q d (.own 0) en) : EP C (.var i) en Q X := by
  unfold EP
  rw [ev, rdVar, g]
  exact h
theorem EP.var1 {i n : Nat} {d : D} (g : en[i]? = some (some (d, n + 1))) (h : SetP en i (some (d, 0)) fun e => Q d (.own 0) e) : EP C (.var i) en Q X := by
  unfold EP
  rw [ev, rdVar, g]
  exact h.2
theorem EP.mv {i n : Nat} {d : D} (g : en[i]? = some (some (d, n))) (h : SetP en i none fun e => Q d (.own n) e) : EP C (.mv i) en Q X := by
  unfold EP
  rw [ev, rdMv, g]
  exact h.2
theorem EP.gl {g : Nat} {d : D} (e : C.gl g = some d) (h : Q d (.own 0) en) : EP C (.gl g) en Q X := by
  unfold EP
  rw [ev, e]
  exact h
theorem EP.fnv {f : Nat} (h : Q (fnD f) (.own 0) en) : EP C (.fnv f) en Q X := h
theorem EP.bin {o : BO} {a b : E} (h : EP C a en (fun x kx e1 => EP C b e1 (fun y ky e2 => Chk (pend (x, kx) (muE b) && itemsOk (x, kx) && itemsOk (y, ky)) (OptP (binD o x y) fun d => FgP d fun n => Q d (.own n) e2)) X) X) : EP C (.bin o a b) en Q X := by
  unfold EP at h ⊢
  rw [ev]
  refine Out.P_bind (Out.P_mono h (fun r e1 h => Out.P_bind (Out.P_mono h (fun s e2 h => ?_) fun _ _ h => h)) fun _ _ h => h)
  obtain ⟨h1, d, h2, h3⟩ := h
  simp only [h1, if_pos, h2]
  exact h3
theorem EP.neg {a : E} (h : EP C a en (fun x kx e1 => IntP x fun i => Q (.int (-i)) (.own 0) e1) X) : EP C (.neg a) en Q X := by
  unfold EP at h ⊢
  rw [ev]
  refine Out.P_bind (Out.P_mono h (fun r e1 h => ?_) fun _ _ h => h)
  obtain ⟨b, h1, h2⟩ := h
  rw [h1]
  exact h2
theorem EP.not {a : E} (h : EP C a en (fun x kx e1 => BoolP x fun b => Q (.bool (!b)) (.own 0) e1) X) : EP C (.not_ a) en Q X := by
  unfold EP at h ⊢
  rw [ev]
  refine Out.P_bind (Out.P_mono h (fun r e1 h => ?_) fun _ _ h => h)
  obtain ⟨b, h1, h2⟩ := h
  rw [h1]
  exact h2
theorem EP.cmp {o : CP} {a b : E} (h : EP C a en (fun x kx e1 => EP C b e1 (fun y ky e2 => Chk (pend (x, kx) (muE b)) (OptB (cmpD o x y) fun t => Q (.bool t) (.own 0) e2)) X) X) : EP C (.cmp o a b) en Q X := by
  unfold EP at h ⊢
  rw [ev]
  refine Out.P_bind (Out.P_mono h (fun r e1 h => Out.P_bind (Out.P_mono h (fun s e2 h => ?_) fun _ _ h => h)) fun _ _ h => h)
  obtain ⟨h1, d, h2, h3⟩ := h
  simp only [h1, if_pos, h2, okB]
  exact h3
theorem EP.isc {ng : Bool} {a : E} {c : D} (h : EP C a en (fun x kx e1 => OptB (isD x c) fun t => Q (.bool (if ng then !t else t)) (.own 0) e1) X) : EP C (.isc ng a c) en Q X := by
  unfold EP at h ⊢
  rw [ev]
  refine Out.P_bind (Out.P_mono h (fun r e1 h => ?_) fun _ _ h => h)
  obtain ⟨d, h2, h3⟩ := h
  simp only [h2, okB, Option.map_some]
  exact h3
theorem EP.is0 {a : E} {c : D} (h : EP C a en (fun x kx e1 => OptB (isD x c) fun t => Q (.bool t) (.own 0) e1) X) : EP C (.isc false a c) en Q X := EP.isc (by simpa using h)
theorem EP.is1 {a : E} {c : D} (h : EP C a en (fun x kx e1 => OptB (isD x c) fun t => Q (.bool (!t)) (.own 0) e1) X) : EP C (.isc true a c) en Q X := EP.isc (by simpa using h)
theorem EP.ch2 {o p : CP} {a b c : E} (h : EP C a en (fun x kx e1 => EP C b e1 (fun y ky e2 => Chk (pend (x, kx) (muE b)) (OptB (cmpD o x y) fun t => IfP t (EP C c e2 (fun z kz e3 => Chk (pend (y, ky) (muE c)) (OptB (cmpD p y z) fun t => Q (.bool t) (.own 0) e3)) X) (Q (.bool false) (.own 0) e2))) X) X) : EP C (.ch2 o p a b c) en Q X := by
  unfold EP at h ⊢
  rw [ev]
  refine Out.P_bind (Out.P_mono h (fun r e1 h => Out.P_bind (Out.P_mono h (fun s e2 h => ?_) fun _ _ h => h)) fun _ _ h => h)
  obtain ⟨h1, d, h2, h3⟩ := h
  simp only [h1, if_pos, h2]
  cases d with
  | true =>
    refine Out.P_bind (Out.P_mono (h3.1 rfl) (fun r e1 h => ?_) fun _ _ h => h)
    obtain ⟨h1, d, h2, h3⟩ := h
    simp only [h1, if_pos, h2, okB]
    exact h3
  | false => exact h3.2 rfl
theorem EP.ch3 {o p q : CP} {a b c d : E} (h : EP C a en (fun x kx e1 => EP C b e1 (fun y ky e2 => Chk (pend (x, kx) (muE b)) (OptB (cmpD o x y) fun t => IfP t (EP C c e2 (fun z kz e3 => Chk (pend (y, ky) (muE c)) (OptB (cmpD p y z) fun t => IfP t (EP C d e3 (fun u ku e4 => Chk (pend (z, kz) (muE d)) (OptB (cmpD q z u) fun t => Q (.bool t) (.own 0) e4)) X) (Q (.bool false) (.own 0) e3))) X) (Q (.bool false) (.own 0) e2))) X) X) : EP C (.ch3 o p q a b c d) en Q X := by
  unfold EP at h ⊢
  rw [ev]
  refine Out.P_bind (Out.P_mono h (fun r e1 h => Out.P_bind (Out.P_mono h (fun s e2 h => ?_) fun _ _ h => h)) fun _ _ h => h)
  obtain ⟨h1, d, h2, h3⟩ := h
  simp only [h1, if_pos, h2]
  cases d with
  | true =>
    refine Out.P_bind (Out.P_mono (h3.1 rfl) (fun r e1 h => ?_) fun _ _ h => h)
    obtain ⟨h1, d, h2, h3⟩ := h
    simp only [h1, if_pos, h2]
    cases d with
    | true =>
      refine Out.P_bind (Out.P_mono (h3.1 rfl) (fun r e1 h => ?_) fun _ _ h => h)
      obtain ⟨h1, d, h2, h3⟩ := h
      simp only [h1, if_pos, h2, okB]
      exact h3
    | false => exact h3.2 rfl
  | false => exact h3.2 rfl
theorem EP.and {a : E} {es : EL} (h : EP C a en (fun x kx e1 => BoolP x fun b => IfP b (AP C es e1 Q X) (Q (.bool false) (.own 0) e1)) X) : EP C (.and_ a es) en Q X := by
  unfold EP at h ⊢
  rw [ev]
  refine Out.P_bind (Out.P_mono h (fun r e1 h => ?_) fun _ _ h => h)
  obtain ⟨b, h1, h2⟩ := h
  rw [h1]
  cases b with
  | true => exact h2.1 rfl
  | false => exact h2.2 rfl
theorem EP.or {a : E} {es : EL} (h : EP C a en (fun x kx e1 => BoolP x fun b => IfP b (Q (.bool true) (.own 0) e1) (OP C es e1 Q X)) X) : EP C (.or_ a es) en Q X := by
  unfold EP at h ⊢
  rw [ev]
  refine Out.P_bind (Out.P_mono h (fun r e1 h => ?_) fun _ _ h => h)
  obtain ⟨b, h1, h2⟩ := h
  rw [h1]
  cases b with
  | true => exact h2.1 rfl
  | false => exact h2.2 rfl
theorem AP.one {a : E} (h : EP C a en (fun x kx e1 => BoolP x fun b => Q (.bool b) (.own 0) e1) X) : AP C (.cons a .nil) en Q X := by
  unfold EP at h
  unfold AP
  rw [evAnd]
  refine Out.P_bind (Out.P_mono h (fun r e1 h => ?_) fun _ _ h => h)
  obtain ⟨b, h1, h2⟩ := h
  rw [h1]
  exact h2
theorem AP.cons {a b : E} {es : EL} (h : EP C a en (fun x kx e1 => BoolP x fun t => IfP t (AP C (.cons b es) e1 Q X) (Q (.bool false) (.own 0) e1)) X) : AP C (.cons a (.cons b es)) en Q X := by
  unfold EP at h
  unfold AP
  rw [evAnd]
  refine Out.P_bind (Out.P_mono h (fun r e1 h => ?_) fun _ _ h => h)
  obtain ⟨b, h1, h2⟩ := h
  rw [h1]
  cases b with
  | true => exact h2.1 rfl
  | false => exact h2.2 rfl
theorem OP.one {a : E} (h : EP C a en (fun x kx e1 => BoolP x fun b => Q (.bool b) (.own 0) e1) X) : OP C (.cons a .nil) en Q X := by
  unfold EP at h
  unfold OP
  rw [evOr]
  refine Out.P_bind (Out.P_mono h (fun r e1 h => ?_) fun _ _ h => h)
  obtain ⟨b, h1, h2⟩ := h
  rw [h1]
  exact h2
theorem OP.cons {a b : E} {es : EL} (h : EP C a en (fun x kx e1 => BoolP x fun t => IfP t (Q (.bool true) (.own 0) e1) (OP C (.cons b es) e1 Q X)) X) : OP C (.cons a (.cons b es)) en Q X := by
  unfold EP at h
  unfold OP
  rw [evOr]
  refine Out.P_bind (Out.P_mono h (fun r e1 h => ?_) fun _ _ h => h)
  obtain ⟨b, h1, h2⟩ := h
  rw [h1]
  cases b with
  | true => exact h2.1 rfl
  | false => exact h2.2 rfl
theorem EP.ite {c a b : E} (h : EP C c en (fun x kx e1 => BoolP x fun t => IfP t (EP C a e1 Q X) (EP C b e1 Q X)) X) : EP C (.ite c a b) en Q X := by
  unfold EP at h ⊢
  rw [ev]
  refine Out.P_bind (Out.P_mono h (fun r e1 h => ?_) fun _ _ h => h)
  obtain ⟨b, h1, h2⟩ := h
  rw [h1]
  cases b with
  | true => exact h2.1 rfl
  | false => exact h2.2 rfl
theorem LP.nil {Q : List D → List Kd → En → Prop} (h : Q [] [] en) : LP C .nil en Q X := h
theorem LP.cons {Q : List D → List Kd → En → Prop} {e : E} {es : EL} (h : EP C e en (fun d k e1 => LP C es e1 (fun ds ks e2 => Chk (pend (d, k) (muL es)) (Q (d :: ds) (k :: ks) e2)) X) X) : LP C (.cons e es) en Q X := by
  unfold EP at h
  unfold LP at h ⊢
  rw [evL]
  refine Out.P_bind (Out.P_mono h (fun r e1 h => Out.P_bind (Out.P_mono h (fun s e2 h => ?_) fun _ _ h => h)) fun _ _ h => h)
  obtain ⟨h1, h2⟩ := h
  rw [if_pos h1]
  exact h2
theorem EP.tup {es : EL} (h : LP C es en (fun ds ks e1 => Chk ((ds.zip ks).all fun r => (keepK r).isSome) (Q (.tuple ds) (.own 0) e1)) X) : EP C (.tup es) en Q X := by
  unfold LP at h
  unfold EP
  rw [ev]
  refine Out.P_bind (Out.P_mono h (fun r e1 h => ?_) fun _ _ h => h)
  try simp only [zip_fs] at h
  obtain ⟨h1, h2⟩ := h
  rw [if_pos h1]
  exact h2
theorem EP.lst {k : Nat} {es : EL} (h : LP C es en (fun ds ks e1 => Chk (((ds.zip ks).all fun r => (keepK r).isSome) && (ds.zip ks).all (keepItem k)) (Q (.list ds) (.own k) e1)) X) : EP C (.lst k es) en Q X := by
  unfold LP at h
  unfold EP
  rw [ev]
  refine Out.P_bind (Out.P_mono h (fun r e1 h => ?_) fun _ _ h => h)
  try simp only [zip_fs] at h
  obtain ⟨h1, h2⟩ := h
  rw [if_pos h1]
  exact h2
theorem EP.dic0 (h : Q (.dict []) (.own 0) en) : EP C .dic0 en Q X := h
theorem EP.ix {a b : E} (h : EP C a en (fun x kx e1 => EP C b e1 (fun y ky e2 => Chk (pend (x, kx) (muE b)) (OptP (getD x y) fun d => KdP (x, kx) d fun k => Q d k e2)) X) X) : EP C (.ix a b) en Q X := by
  unfold EP at h ⊢
  rw [ev]
  refine Out.P_bind (Out.P_mono h (fun r e1 h => Out.P_bind (Out.P_mono h (fun s e2 h => ?_) fun _ _ h => h)) fun _ _ h => h)
  obtain ⟨h1, d, h2, h3⟩ := h
  simp only [h1, if_pos, ixR, h2]
  exact h3
theorem PP.none {Q : Option Int → En → Prop} (h : Q .none en) : PP C .none en Q X := h
theorem PP.some {Q : Option Int → En → Prop} {e : E} (h : EP C e en (fun d k e1 => IntP d fun i => Q (.some i) e1) X) : PP C (.some e) en Q X := by
  unfold EP at h
  unfold PP
  rw [evO]
  refine Out.P_bind (Out.P_mono h (fun r e1 h => ?_) fun _ _ h => h)
  obtain ⟨b, h1, h2⟩ := h
  rw [h1]
  exact h2
theorem EP.sl {a : E} {lo hi : OE} (h : EP C a en (fun x kx e1 => PP C lo e1 (fun l e2 => PP C hi e2 (fun u e3 => Chk (pend (x, kx) (muO lo ++ muO hi) && itemsOk (x, kx)) (OptP (sliceD x l u) fun d => FgP d fun n => Q d (.own n) e3)) X) X) X) : EP C (.sl a lo hi) en Q X := by
  unfold EP PP at h
  unfold EP
  rw [ev]
  refine Out.P_bind (Out.P_mono h (fun r e1 h => Out.P_bind (Out.P_mono h (fun s e2 h => Out.P_bind (Out.P_mono h (fun s e2 h => ?_) fun _ _ h => h)) fun _ _ h => h)) fun _ _ h => h)
  obtain ⟨h1, d, h2, h3⟩ := h
  rw [Bool.and_eq_true] at h1
  simp only [h1.1, h1.2, if_pos, slR, h2]
  exact h3
theorem EP.rev {a : E} (h : EP C a en (fun x kx e1 => Chk (itemsOk (x, kx)) (OptP (revD x) fun d => FgP d fun n => Q d (.own n) e1)) X) : EP C (.rev a) en Q X := by
  unfold EP at h ⊢
  rw [ev]
  refine Out.P_bind (Out.P_mono h (fun r e1 h => ?_) fun _ _ h => h)
  obtain ⟨h1, d, h2, h3⟩ := h
  simp only [h1, if_pos, h2]
  exact h3
theorem EP.bi {b : BI} {es : EL} (h : LP C es en (fun ds ks e1 => Chk ((ds.zip ks).all itemsOk) (OptP (biD b ds) fun d => FgP d fun n => Q d (.own n) e1)) X) : EP C (.bi b es) en Q X := by
  unfold LP at h
  unfold EP
  rw [ev]
  refine Out.P_bind (Out.P_mono h (fun r e1 h => ?_) fun _ _ h => h)
  try simp only [zip_fs] at h
  obtain ⟨h1, d, h2, h3⟩ := h
  simp only [h1, if_pos, h2]
  exact h3
theorem EP.rngl {es : EL} (h : LP C es en (fun ds ks e1 => OptL (rangeD ds) fun xs => Q (.list xs) (.own 1) e1) X) : EP C (.rngl false es) en Q X := by
  unfold LP at h
  unfold EP
  rw [ev]
  refine Out.P_bind (Out.P_mono h (fun r e1 h => ?_) fun _ _ h => h)
  try simp only [zip_fs] at h
  obtain ⟨d, h2, h3⟩ := h
  simp only [h2]
  exact h3
theorem EP.rngt {es : EL} (h : LP C es en (fun ds ks e1 => OptL (rangeD ds) fun xs => Q (.tuple xs) (.own 0) e1) X) : EP C (.rngl true es) en Q X := by
  unfold LP at h
  unfold EP
  rw [ev]
  refine Out.P_bind (Out.P_mono h (fun r e1 h => ?_) fun _ _ h => h)
  try simp only [zip_fs] at h
  obtain ⟨d, h2, h3⟩ := h
  simp only [h2]
  exact h3
theorem EP.mt {m : MT} {a : E} {es : EL} (h : EP C a en (fun x kx e1 => Chk (isSq x) (LP C es e1 (fun ds ks e2 => Chk (pend (x, kx) (muL es)) (OptP (mtD m x ds) fun d => Q d (.own 0) e2)) X)) X) : EP C (.mt m a es) en Q X := by
  unfold EP LP at h
  unfold EP
  rw [ev]
  refine Out.P_bind (Out.P_mono h (fun r e1 h => ?_) fun _ _ h => h)
  try simp only [zip_fs] at h
  obtain ⟨h1, h⟩ := h
  rw [if_pos h1]
  refine Out.P_bind (Out.P_mono h (fun s e2 h => ?_) fun _ _ h => h)
  try simp only [zip_fs] at h
  obtain ⟨h1, d, h2, h3⟩ := h
  simp only [h1, if_pos, h2, okD]
  exact h3
/-- a list's method -/
def MuP (m : MU) (i : Nat) (ds : List D) (ks : List Kd) (e1 : En) (Q : D → Kd → En → Prop) : Prop := (muR m i (ds.zip ks) e1).P (fun r e => Q r.1 r.2 e) NoX
theorem EP.mu {m : MU} {i : Nat} {es : EL} (g : (isLst en i && !(muL es).contains i) = true) (h : LP C es en (fun ds ks e1 => MuP m i ds ks e1 Q) X) : EP C (.mu m i es) en Q X := by
  unfold LP at h
  unfold EP
  rw [ev, if_pos g]
  refine Out.P_bind (Out.P_mono h (fun r e1 h => ?_) fun _ _ h => h)
  try simp only [zip_fs] at h
  unfold MuP at h
  simp only [zip_fs] at h
  exact Out.P_mono h (fun _ _ h => h) fun _ _ h => h.elim
theorem muD_append {xs : List D} {d : D} (hl : xs.length < LIM) : muD .append (.list xs) [d] = some (.none, .list (xs ++ [d])) := by
  simp only [muD]
  rw [if_pos hl]
theorem muR_of {m : MU} {i n : Nat} {rs : List (D × Kd)} {d v d' : D} (g : en[i]? = some (some (d, n + 1))) (k : rs.all (muIn m n) = true) (h : muD m d (dsOf rs) = some (v, d')) : muR m i rs en = .ok (v, .own n) (en.set i (some (d', n + 1))) := by
  rw [muR, g]
  simp only [k, if_pos, h]
theorem MuP.append {i n : Nat} {d : D} {k : Kd} {xs : List D} (g : en[i]? = some (some (.list xs, n + 1))) (hk : muIn .append n (d, k) = true) (hl : xs.length < 16777216) (h : SetP en i (some (.list (xs ++ [d]), n + 1)) fun e => Q .none (.own n) e) : MuP .append i [d] [k] en Q := by
  have hmd := muD_append (d := d) (show xs.length < LIM from hl)
  have e := muR_of (m := .append) (rs := [(d, k)]) g (by simp [hk]) (show muD .append (.list xs) (dsOf [(d, k)]) = _ from hmd)
  unfold MuP
  show Out.P _ _ (muR .append i [(d, k)] en)
  rw [e]
  exact h.2
theorem muD_popAt {xs : List D} {j : Nat} (hj : j < xs.length) (hl : j < 1073741824) : muD .popAt (.list xs) [.int j] = some (xs[j], .list (xs.eraseIdx j)) := by
  have h1 : (0 : Int) ≤ j := by omega
  have h2 : (j : Int) < 2 ^ 62 := by omega
  simp only [muD]
  rw [if_pos (by rw [decide_eq_true h1, decide_eq_true h2]; rfl)]
  simp [hj]
theorem MuP.popAt {i n j : Nat} {x : Int} {k : Kd} {xs : List D} (g : en[i]? = some (some (.list xs, n + 1))) (hk : muIn .popAt n (.int x, k) = true) (hx : x = j) (hj : j < xs.length) (hl : (j : Int) < 1073741824) (h : SetP en i (some (.list (xs.eraseIdx j), n + 1)) fun e => Q xs[j] (.own n) e) : MuP .popAt i [.int x] [k] en Q := by
  subst hx
  have hmd := muD_popAt hj (by omega)
  have e := muR_of (m := .popAt) (rs := [(.int (j : Int), k)]) g (by simp [hk]) (show muD .popAt (.list xs) (dsOf [(.int (j : Int), k)]) = _ from hmd)
  unfold MuP
  show Out.P _ _ (muR .popAt i [(.int (j : Int), k)] en)
  rw [e]
  exact h.2
theorem MuP.pop {i n : Nat} {xs : List D} {d : D} (g : en[i]? = some (some (.list (xs ++ [d]), n + 1))) (h : SetP en i (some (.list xs, n + 1)) fun e => Q d (.own n) e) : MuP .pop i [] [] en Q := by
  unfold MuP muR
  rw [g]
  simp [dsOf, muD]
  exact h.2

/-! ### calls -/
theorem setIos_nil {en : En} {ios : List D} : setIos [] [] ios en = if ios = [] then some en else none := by
  cases ios <;> simp [setIos]
theorem argsOk_nil : ∀ (rs : List (D × Kd)), argsOk [] [] rs = true
  | [] => rfl
  | (d, .own n) :: rs => by simp [argsOk, argsOk_nil rs]
  | (d, .root i m w) :: rs => by simp [argsOk, argsOk_nil rs]
def CallP (co : CO) (b : Bool) (e1 : En) (Q : D → Kd → En → Prop) (X : D → En → Prop) : Prop := KP co (fun d k ios => ios = [] ∧ Chk (!b || full k d) (Q d (.own k) e1)) (fun x ios => ios = [] ∧ excOk x = true ∧ X x e1)
theorem call_nil {co : List D → CO} {bl : List Nat} {rs : List (D × Kd)} (h : CallP (co (dsOf rs)) (anyRoot [] rs) en Q X) : (callD co [] bl rs en).P (fun r e1 => Q r.1 r.2 e1) X := by
  unfold callD
  have a : argJs en bl [] rs = some [] := by cases rs <;> rfl
  simp only [a, jsOf, List.filterMap_nil, argsOk_nil, List.nodup_nil, decide_true, Bool.and_self, if_pos]
  unfold CallP KP at h
  split at h
  · rename_i d k ios q
    obtain ⟨h1, h2, h3⟩ := h
    subst h1
    try rw [q]
    have h4 : ¬ (anyRoot [] rs && !full k d) = true := by
      cases hb : anyRoot [] rs <;> simp [hb] at h2 ⊢
      exact h2
    simp only [if_neg h4, setIos_nil, if_pos]
    exact h3
  · rename_i x ios q
    obtain ⟨h1, h2, h3⟩ := h
    subst h1
    try rw [q]
    simp only [h2, if_pos, setIos_nil]
    exact h3
  · exact h.elim
theorem EP.call {f : Nat} {es : EL} (h : LP C es en (fun ds ks e1 => CallP (C.fn f ds) (anyRoot [] (ds.zip ks)) e1 Q X) X) : EP C (.call f [] es []) en Q X := by
  unfold LP at h
  unfold EP
  rw [ev]
  refine Out.P_bind (Out.P_mono h (fun rs e1 h => ?_) fun _ _ h => h)
  try simp only [zip_fs] at h
  simp only [List.isEmpty_nil, if_pos]
  exact call_nil h
theorem EP.callk {f k : Nat} {kw : List Nat} {es : EL} (h : LP C es en (fun ds ks e1 => CallP (C.fn f (permL (k :: kw) ds)) (anyRoot [] (ds.zip ks)) e1 Q X) X) : EP C (.call f [] es (k :: kw)) en Q X := by
  unfold LP at h
  unfold EP
  rw [ev]
  refine Out.P_bind (Out.P_mono h (fun rs e1 h => ?_) fun _ _ h => h)
  try simp only [zip_fs] at h
  simp only [List.isEmpty_nil, List.isEmpty_cons, if_pos, Bool.false_eq_true]
  rw [if_neg (by simp)]
  exact call_nil (co := fun ds => C.fn f (permL (k :: kw) ds)) (bl := []) h
theorem EP.callL {f l : Nat} {es : EL} {cs : List Nat} (h : LP C es en (fun ds ks e1 => ∃ vs, capD e1 cs = some vs ∧ CallP (lamOut (C.fn f (ds ++ [loD l vs]))) (anyRoot [] (ds.zip ks)) e1 Q X) X) : EP C (.callL f es l cs) en Q X := by
  unfold LP at h
  unfold EP
  rw [ev]
  refine Out.P_bind (Out.P_mono h (fun rs e1 h => ?_) fun _ _ h => h)
  try simp only [zip_fs] at h
  obtain ⟨vs, h1, h2⟩ := h
  simp only [h1]
  exact call_nil (co := fun ds => lamOut (C.fn f (ds ++ [loD l vs]))) h2
theorem EP.calf {i f n : Nat} {es : EL} {co : List D → CO} (g : en[i]? = some (some (fnD f, n))) (hf : C.fnv f = some co) (hm : (muL es).contains i = false) (h : LP C es en (fun ds ks e1 => CallP (co ds) (anyRoot [] (ds.zip ks)) e1 Q X) X) : EP C (.calv i es) en Q X := by
  unfold LP at h
  unfold EP
  rw [ev, g]
  simp only [fnD, Int.toNat_natCast, hf, hm, if_neg, Bool.false_eq_true]
  exact Out.P_bind (Out.P_mono h (fun rs e1 h => call_nil (by simpa only [zip_fs] using h)) fun _ _ h => h)
theorem EP.call_lam {i l n : Nat} {vs : List D} {es : EL} (g : en[i]? = some (some (loD l vs, n))) (hm : (muL es).contains i = false) (h : LP C es en (fun ds ks e1 => CallP (C.lam l vs ds) (anyRoot [] (ds.zip ks)) e1 Q X) X) : EP C (.calv i es) en Q X := by
  unfold LP at h
  unfold EP
  rw [ev, g]
  simp only [loD, Int.toNat_natCast, hm, if_neg, Bool.false_eq_true]
  exact Out.P_bind (Out.P_mono h (fun rs e1 h => call_nil (by simpa only [zip_fs] using h)) fun _ _ h => h)
theorem CallP.eq {co : CO} {b : Bool} {e1 : En} {d : D} {k : Nat} (h : co = .ret d k []) (q : Chk (!b || full k d) (Q d (.own k) e1)) : CallP co b e1 Q X := by
  rw [h]; exact ⟨rfl, q⟩
theorem CallP.of {co : CO} {b : Bool} {e1 : En} {R : D → Nat → List D → Prop} (h : KP co R NoC) (q : ∀ d k ios, R d k ios → ios = [] ∧ Chk (!b || full k d) (Q d (.own k) e1)) : CallP co b e1 Q X := KP.mono h q fun _ _ h => h.elim
/-- a call that is given the list of a slot to be changed, first -/
def PoolP (co : CO) (i : Nat) (e1 : En) (Q : D → Kd → En → Prop) (X : D → En → Prop) : Prop := KP co (fun d k ios => ∃ p', ios = [p'] ∧ full 1 p' = true ∧ SetP e1 i (some (p', 1)) fun e => Q d (.own k) e) (fun x ios => ∃ p', ios = [p'] ∧ full 1 p' = true ∧ excOk x = true ∧ SetP e1 i (some (p', 1)) fun e => X x e)
/-- what is handed over stands in its slot, the other arguments stand by themselves -/
def PreP (e1 : En) (i : Nat) (p : D) (ds : List D) (ks : List Kd) (P : Prop) : Prop := e1[i]? = some (some (p, 1)) ∧ full 1 p = true ∧ (ds.zip ks).all ownK = true ∧ P
def IsPool (p : D) : Prop := ∃ a b c, p = pool a b c
theorem IsPool.full {p : D} (h : IsPool p) : full 1 p = true := by
  obtain ⟨a, b, c, rfl⟩ := h
  rfl
theorem PreP.mk {e1 : En} {i : Nat} {p : D} {ds : List D} {ks : List Kd} {P : Prop} (h1 : e1[i]? = some (some (p, 1))) (h2 : IsPool p) (h3 : (ds.zip ks).all ownK = true) (h : P) : PreP e1 i p ds ks P := ⟨h1, h2.full, h3, h⟩
theorem PreP.mk' {e1 : En} {i : Nat} {p : D} {ds : List D} {ks : List Kd} {P : Prop} (h1 : e1[i]? = some (some (p, 1))) (h2 : QQ.full 1 p = true) (h3 : (ds.zip ks).all ownK = true) (h : P) : PreP e1 i p ds ks P := ⟨h1, h2, h3, h⟩
theorem PoolP.mk {co : CO} {i : Nat} {e1 : En} {d : D} {k : Nat} {p' : D} (h : co = .ret d k [p']) (f : QQ.full 1 p' = true) (q : SetP e1 i (some (p', 1)) fun e => Q d (.own k) e) : PoolP co i e1 Q X := by
  rw [h]; exact ⟨p', rfl, f, q⟩
theorem PoolP.of {co : CO} {i : Nat} {e1 : En} {R : D → Nat → Prop} (h : KP co (fun d k ios => ∃ p', ios = [p'] ∧ IsPool p' ∧ R d k) NoC) (q : ∀ d k p', IsPool p' → R d k → SetP e1 i (some (p', 1)) fun e => Q d (.own k) e) : PoolP co i e1 Q X :=
  KP.mono h (fun d k ios ⟨p', h1, h2, h3⟩ => ⟨p', h1, h2.full, q d k p' h2 h3⟩) fun _ _ h => h.elim
theorem PoolP.draw {f i : Nat} {p : D} {m : Int} {e1 : En} (hd : DrawOk C f) (hp : IsPool p) (hm : 0 < m ∧ m < 1073741824) (q : ∀ (x : Nat) p', IsPool p' → (x : Int) < m → SetP e1 i (some (p', 1)) fun e => Q (.int x) (.own 0) e) : PoolP (C.fn f [p, .int m]) i e1 Q X := by
  obtain ⟨a, b, c, rfl⟩ := hp
  obtain ⟨d, a', b', c', h, h1, h2⟩ := hd a b c m hm
  refine PoolP.mk h (IsPool.full ⟨_, _, _, rfl⟩) ?_
  have := q d.toNat (pool a' b' c') ⟨_, _, _, rfl⟩ (by omega)
  have e : ((d.toNat : Nat) : Int) = d := by omega
  rw [e] at this
  exact this
theorem PoolP.order {f i : Nat} {p : D} {m : Nat} {e1 : En} (ho : OrderOk C f) (hp : IsPool p) (hm : m ≤ 10000) (q : ∀ (ns : List Int) p', IsPool p' → ns.Perm (rangeI m) → SetP e1 i (some (p', 1)) fun e => Q (.tuple (ns.map .int)) (.own 0) e) : PoolP (C.fn f [p, .int m]) i e1 Q X := by
  obtain ⟨a, b, c, rfl⟩ := hp
  obtain ⟨ns, a', b', c', h, h1⟩ := ho a b c m hm
  exact PoolP.mk h (IsPool.full ⟨_, _, _, rfl⟩) (q ns _ ⟨_, _, _, rfl⟩ h1)
theorem PoolP.race {f i : Nat} {p : D} {m : Nat} {e1 : En} (ho : RaceOk C f) (hp : IsPool p) (h1 : 1 ≤ m) (hm : m ≤ 1000) (q : ∀ (ns ms : List Int) p', IsPool p' → ns.Perm (rangeI m) → ms.Perm (rangeI m) → SetP e1 i (some (p', 1)) fun e => Q (.tuple [.tuple (ns.map .int), .tuple (ms.map .int)]) (.own 0) e) : PoolP (C.fn f [p, .int m]) i e1 Q X := by
  obtain ⟨a, b, c, rfl⟩ := hp
  obtain ⟨ns, ms, a', b', c', h, h1, h2⟩ := ho a b c m h1 hm
  exact PoolP.mk h (IsPool.full ⟨_, _, _, rfl⟩) (q ns ms _ ⟨_, _, _, rfl⟩ h1 h2)
theorem argsOk_own (js : List Nat) : ∀ {rs : List (D × Kd)}, rs.all ownK = true → argsOk js [] rs = true
  | [], _ => rfl
  | (d, .own n) :: rs, h => by
    have : rs.all ownK = true := by simpa [ownK] using h
    simp [argsOk, argsOk_own js this]
  | (d, .root i m w) :: rs, h => by simp [ownK] at h
theorem EP.pool {f i : Nat} {es : EL} {p : D} (g : en[i]? = some (some (p, 1))) (hm : (muL es).contains i = false) (h : LP C es en (fun ds ks e1 => PreP e1 i p ds ks (PoolP (C.fn f (p :: ds)) i e1 Q X)) X) : EP C (.call f [1] (.cons (.bw i) es) []) en Q X := by
  unfold LP at h
  unfold EP
  have e0 : ev C (.bw i) en = .ok (p, .root i (0 + 1) true) en := by rw [ev, rdBw, g]
  rw [ev, evL, e0]
  simp only [Out.bind_ok, List.isEmpty_nil, if_pos]
  refine Out.P_bind (Out.P_bind (Out.P_mono h (fun rs e1 h => ?_) fun _ _ h => h))
  try simp only [zip_fs] at h
  have hp : pend (p, .root i (0 + 1) true) (muL es) = true := by
    simp only [pend, hm]; rfl
  rw [if_pos hp]
  obtain ⟨h1, h2, h3, h4⟩ := h
  simp only [zip_fs] at h3
  have a : argJs e1 (ioBl [1] (.cons (.bw i) es)) [1] ((p, .root i (0 + 1) true) :: rs) = some [some i] := by
    have hr : argJs e1 (ioBl [1] (.cons (.bw i) es)) [] rs = some [] := by cases rs <;> rfl
    simp [argJs, h2, depthAt, h1, hr, ioBl, bwL]
  show (callD _ _ _ _ _).P _ _
  unfold callD
  have ar : anyRoot [] rs = false := (own_args h3).2
  rw [a]
  simp only [jsOf, List.filterMap_cons, List.filterMap_nil, id, argsOk, argsOk_own _ h3, anyRoot, ar, Bool.false_and, Bool.false_eq_true, if_false]
  have nd : decide (jsOf [some i]).Nodup = true := by simp [jsOf]
  simp only [jsOf, List.filterMap_cons, List.filterMap_nil, id] at nd
  rw [if_pos (by rw [Bool.and_eq_true]; exact ⟨rfl, nd⟩)]
  unfold PoolP KP at h4
  show (match C.fn f (p :: dsOf rs) with | .ret d k ios => _ | .exc x ios => _ | .stuck => _ : Out (D × Kd)).P _ _
  split at h4
  · rename_i d k ios q
    obtain ⟨p', h1, h2, h3⟩ := h4
    subst h1
    simp only [setIos, h2, if_pos]
    exact h3.2
  · rename_i x ios q
    obtain ⟨p', h1, h2, h0, h3⟩ := h4
    subst h1
    simp only [h0, if_pos, setIos, h2]
    exact h3.2
  · exact h4.elim
/-- .. that is given a new list to be changed, first -/
def NewP (co : CO) (e1 : En) (Q : D → Kd → En → Prop) (X : D → En → Prop) : Prop := KP co (fun d k ios => ∃ p', ios = [p'] ∧ Q d (.own k) e1) (fun x ios => ∃ p', ios = [p'] ∧ excOk x = true ∧ X x e1)
theorem NewP.of {co : CO} {e1 : En} {R : D → Nat → Prop} (h : KP co (fun d k ios => ∃ p', ios = [p'] ∧ IsPool p' ∧ R d k) NoC) (q : ∀ d k, R d k → Q d (.own k) e1) : NewP co e1 Q X :=
  KP.mono h (fun d k ios ⟨p', h1, h2, h3⟩ => ⟨p', h1, q d k h3⟩) fun _ _ h => h.elim
def PreN (k : Kd) (d : D) (ds : List D) (ks : List Kd) (P : Prop) : Prop := k = .own 1 ∧ full 1 d = true ∧ (ds.zip ks).all ownK = true ∧ P
theorem PreN.mk {d : D} {ds : List D} {ks : List Kd} {P : Prop} (h2 : IsPool d) (h3 : (ds.zip ks).all ownK = true) (h : P) : PreN (.own 1) d ds ks P := ⟨rfl, h2.full, h3, h⟩
theorem EP.poolN {f : Nat} {e : E} {es : EL} (h : EP C e en (fun d k e1 => LP C es e1 (fun ds ks e2 => PreN k d ds ks (NewP (C.fn f (d :: ds)) e2 Q X)) X) X) : EP C (.call f [1] (.cons e es) []) en Q X := by
  unfold EP LP at h
  unfold EP
  rw [ev, evL]
  refine Out.P_bind (Out.P_bind (Out.P_mono h (fun r e1 h => ?_) fun _ _ h => h))
  refine Out.P_bind (Out.P_mono h (fun rs e2 h => ?_) fun _ _ h => h)
  obtain ⟨d, k⟩ := r
  obtain ⟨h0, h2, h3, h4⟩ := h
  simp only at h0 h4
  subst h0
  simp only [zip_fs] at h3
  have hp : pend (d, .own 1) (muL es) = true := rfl
  rw [if_pos hp]
  simp only [List.isEmpty_nil, if_pos]
  have a : argJs e2 (ioBl [1] (.cons e es)) [1] ((d, .own (0 + 1)) :: rs) = some [none] := by
    have hr : argJs e2 (ioBl [1] (.cons e es)) [] rs = some [] := by cases rs <;> rfl
    simp only [] at h2
    simp [argJs, h2, hr]
  show (callD _ _ _ ((d, .own (0 + 1)) :: rs) _).P _ _
  unfold callD
  have ar : anyRoot [] rs = false := (own_args h3).2
  rw [a]
  have a2 : (argsOk (jsOf [none]) [1] ((d, .own (0 + 1)) :: rs) && decide (jsOf [none]).Nodup) = true := by
    simp [jsOf, argsOk, argsOk_own _ h3]
  simp only [a2, if_pos]
  have ar2 : anyRoot [1] ((d, .own (0 + 1)) :: rs) = false := by simp [anyRoot, ar]
  simp only [ar2, Bool.false_and, Bool.false_eq_true, if_false]
  unfold NewP KP at h4
  show (match C.fn f (d :: dsOf rs) with | .ret d k ios => _ | .exc x ios => _ | .stuck => _ : Out (D × Kd)).P _ _
  split at h4
  · rename_i d k ios q
    obtain ⟨p', h1, h3⟩ := h4
    subst h1
    exact h3
  · rename_i x ios q
    obtain ⟨p', h1, h0, h3⟩ := h4
    subst h1
    simp only [if_pos h0]
    exact h3
  · exact h4.elim
end ex
end QQ
namespace QQ
open PySem L2
variable {C : Orc} {W : Nat} {en : En} {X : D → En → Prop}
/-! ### operations -/
section ops
variable {R : D → Prop} {B : Bool → Prop}
theorem OptP.add {i j : Int} (h : R (.int (i + j))) : OptP (binD .add (.int i) (.int j)) R := ⟨_, rfl, h⟩
theorem OptP.sub {i j : Int} (h : R (.int (i - j))) : OptP (binD .sub (.int i) (.int j)) R := ⟨_, rfl, h⟩
theorem OptP.mul {i j : Int} (l : (-18446744073709551616 < i ∧ i < 18446744073709551616) ∨ (-18446744073709551616 < j ∧ j < 18446744073709551616)) (h : R (.int (i * j))) : OptP (binD .mul (.int i) (.int j)) R := by
  rcases l with l | l
  · exact ⟨_, mul_ok' i j l, h⟩
  · exact ⟨_, mul_ok i j l, h⟩
theorem OptP.mod {i j : Int} (l : 0 < j) (h : R (.int (i % j))) : OptP (binD .mod (.int i) (.int j)) R := ⟨_, mod_ok i j l, h⟩
theorem OptP.fdiv {i j : Int} (l : 0 < j ∧ j < 1073741824) (h : R (.int (i / j))) : OptP (binD .fdiv (.int i) (.int j)) R := ⟨_, fdiv_ok i j l, h⟩
theorem OptP.pow {i j : Int} (l : 0 ≤ j ∧ j ≤ 1000000) (l2 : i.natAbs < 18446744073709551616) (h : R (.int (i ^ j.toNat))) : OptP (binD .pow (.int i) (.int j)) R := ⟨_, pow_ok i j l l2, h⟩
theorem add_tup' (xs ys : List D) (h : xs.length + ys.length ≤ 16777216) : binD .add (.tuple xs) (.tuple ys) = some (.tuple (xs ++ ys)) := by
  simp only [binD]
  rw [if_pos h]
theorem add_lst' (xs ys : List D) (h : xs.length + ys.length ≤ 16777216) : binD .add (.list xs) (.list ys) = some (.list (xs ++ ys)) := by
  simp only [binD]
  rw [if_pos h]
theorem OptP.cat {xs ys : List D} (l : xs.length + ys.length ≤ 16777216) (h : R (.tuple (xs ++ ys))) : OptP (binD .add (.tuple xs) (.tuple ys)) R := ⟨_, add_tup' xs ys l, h⟩
theorem OptP.catl {xs ys : List D} (l : xs.length + ys.length ≤ 16777216) (h : R (.list (xs ++ ys))) : OptP (binD .add (.list xs) (.list ys)) R := ⟨_, add_lst' xs ys l, h⟩
theorem OptP.rep0 {n : Nat} {d : D} (l : n ≤ 10000) (f : lf d = true) (h : R (.list (List.replicate n d))) : OptP (binD .mul (.list [d]) (.int n)) R := by
  have h1 : -(2 ^ 62) < (n : Int) := by omega
  have h2 : (n : Int) < 2 ^ 62 := by omega
  have h3 : [d].length * (n : Int).toNat ≤ LIM := by rw [LIM_eq]; simp; omega
  have h4 : lfs [d] = true := by simp [lfs, f]
  have e : binD .mul (.list [d]) (.int n) = some (.list (List.replicate n [d]).flatten) := by
    simp only [binD]
    rw [if_pos (by rw [decide_eq_true h1, decide_eq_true h2, decide_eq_true h3, h4]; rfl)]
    rw [Int.toNat_natCast]
  refine ⟨_, e, ?_⟩
  have e2 : (List.replicate n [d]).flatten = List.replicate n d := by
    clear l h h1 h2 h3 e
    induction n with
    | zero => rfl
    | succ n ih => rw [List.replicate_succ, List.flatten_cons, ih, List.replicate_succ]; rfl
  rw [e2]
  exact h
/-! comparisons -/
theorem OptB.lt {i j : Int} (h : B (decide (i < j))) : OptB (cmpD .lt (.int i) (.int j)) B := ⟨_, rfl, h⟩
theorem OptB.gt {i j : Int} (h : B (decide (j < i))) : OptB (cmpD .gt (.int i) (.int j)) B := ⟨_, rfl, h⟩
theorem OptB.le {i j : Int} (h : B (decide (i ≤ j))) : OptB (cmpD .le (.int i) (.int j)) B := ⟨!decide (j < i), rfl, by
  have e : (!decide (j < i)) = decide (i ≤ j) := by
    by_cases q : j < i
    · have : ¬ i ≤ j := by omega
      simp [q]
    · have : i ≤ j := by omega
      simp [q, this]
  rw [e]; exact h⟩
theorem OptB.ge {i j : Int} (h : B (decide (j ≤ i))) : OptB (cmpD .ge (.int i) (.int j)) B := ⟨!decide (i < j), rfl, by
  have e : (!decide (i < j)) = decide (j ≤ i) := by
    by_cases q : i < j
    · have : ¬ j ≤ i := by omega
      simp [q]
    · have : j ≤ i := by omega
      simp [q, this]
  rw [e]; exact h⟩
theorem eqv_dec (i j : Int) : PyData.eqv (.int i) (.int j) = decide (i = j) := by
  rw [PyData.eqv]
  by_cases h : i = j
  · subst h; simp
  · simp [h]
theorem OptB.eq_int {i j : Int} (h : B (decide (i = j))) : OptB (cmpD .eq (.int i) (.int j)) B := OptB.mk (d := decide (i = j)) (by simp only [cmpD, shp_int, Bool.and_self, if_pos, eqv_dec]) h
theorem OptB.ne_int {i j : Int} (h : B (!decide (i = j))) : OptB (cmpD .ne (.int i) (.int j)) B := OptB.mk (d := !decide (i = j)) (by simp only [cmpD, shp_int, Bool.and_self, if_pos, eqv_dec]) h
theorem OptB.eq {x y : D} (s1 : shp x = true) (s2 : shp y = true) (h : B (PyData.eqv x y)) : OptB (cmpD .eq x y) B := ⟨_, by simp only [cmpD, s1, s2, Bool.and_self, if_pos], h⟩
theorem OptB.ne {x y : D} (s1 : shp x = true) (s2 : shp y = true) (h : B (!PyData.eqv x y)) : OptB (cmpD .ne x y) B := ⟨_, by simp only [cmpD, s1, s2, Bool.and_self, if_pos], h⟩
theorem OptB.eq_bool {x y : Bool} (h : B (x == y)) : OptB (cmpD .eq (.bool x) (.bool y)) B := OptB.eq rfl rfl (by cases x <;> cases y <;> exact h)
theorem OptB.ne_bool {x y : Bool} (h : B (!(x == y))) : OptB (cmpD .ne (.bool x) (.bool y)) B := OptB.ne rfl rfl (by cases x <;> cases y <;> exact h)
theorem OptB.eq_tupI {ns ms : List Int} (h : B (decide (ns = ms))) : OptB (cmpD .eq (.tuple (ns.map .int)) (.tuple (ms.map .int))) B := OptB.eq (shp_tup_ints ns) (shp_tup_ints ms) (by rw [eqv_tup_ints]; exact h)
theorem OptB.ne_tupI {ns ms : List Int} (h : B (!decide (ns = ms))) : OptB (cmpD .ne (.tuple (ns.map .int)) (.tuple (ms.map .int))) B := OptB.ne (shp_tup_ints ns) (shp_tup_ints ms) (by rw [eqv_tup_ints]; exact h)
theorem OptB.eq_lstI {ns ms : List Int} (h : B (decide (ns = ms))) : OptB (cmpD .eq (.list (ns.map .int)) (.list (ms.map .int))) B := OptB.eq (shp_lst_ints ns) (shp_lst_ints ms) (by rw [eqv_lst_ints]; exact h)
theorem OptB.ne_lstI {ns ms : List Int} (h : B (!decide (ns = ms))) : OptB (cmpD .ne (.list (ns.map .int)) (.list (ms.map .int))) B := OptB.ne (shp_lst_ints ns) (shp_lst_ints ms) (by rw [eqv_lst_ints]; exact h)
theorem OptB.in_tupI {i : Int} {ns : List Int} (h : B (decide (i ∈ ns))) : OptB (cmpD .isin (.int i) (.tuple (ns.map .int))) B := OptB.mk (d := decide (i ∈ ns)) (by simp only [cmpD, shp_int, shp_tup_ints, shp_lst_ints, Bool.and_self, if_pos, memD_ints]) h
theorem OptB.in_lstI {i : Int} {ns : List Int} (h : B (decide (i ∈ ns))) : OptB (cmpD .isin (.int i) (.list (ns.map .int))) B := OptB.mk (d := decide (i ∈ ns)) (by simp only [cmpD, shp_int, shp_tup_ints, shp_lst_ints, Bool.and_self, if_pos, memD_ints]) h
theorem OptB.nin_tupI {i : Int} {ns : List Int} (h : B (!decide (i ∈ ns))) : OptB (cmpD .notin (.int i) (.tuple (ns.map .int))) B := OptB.mk (d := !decide (i ∈ ns)) (by simp only [cmpD, shp_int, shp_tup_ints, shp_lst_ints, Bool.and_self, if_pos, memD_ints]) h
theorem OptB.nin_lstI {i : Int} {ns : List Int} (h : B (!decide (i ∈ ns))) : OptB (cmpD .notin (.int i) (.list (ns.map .int))) B := OptB.mk (d := !decide (i ∈ ns)) (by simp only [cmpD, shp_int, shp_tup_ints, shp_lst_ints, Bool.and_self, if_pos, memD_ints]) h
/-! is -/
theorem OptB.isT {b : Bool} (h : B b) : OptB (isD (.bool b) (.bool true)) B := ⟨_, rfl, by cases b <;> exact h⟩
theorem OptB.isF {b : Bool} (h : B (!b)) : OptB (isD (.bool b) (.bool false)) B := ⟨_, rfl, by cases b <;> exact h⟩
/-! built-ins -/
theorem OptP.len_t {xs : List D} (h : R (.int xs.length)) : OptP (biD .len [.tuple xs]) R := ⟨_, rfl, h⟩
theorem OptP.len_l {xs : List D} (h : R (.int xs.length)) : OptP (biD .len [.list xs]) R := ⟨_, rfl, h⟩
theorem OptP.len_tm {α : Type} {f : α → D} {xs : List α} (h : R (.int xs.length)) : OptP (biD .len [.tuple (xs.map f)]) R := ⟨_, rfl, by rw [List.length_map]; exact h⟩
theorem OptP.len_lm {α : Type} {f : α → D} {xs : List α} (h : R (.int xs.length)) : OptP (biD .len [.list (xs.map f)]) R := ⟨_, rfl, by rw [List.length_map]; exact h⟩
theorem OptP.int {i : Int} (h : R (.int i)) : OptP (biD .int [.int i]) R := ⟨_, rfl, h⟩
theorem OptP.abs {i : Int} (h : R (.int (if i < 0 then -i else i))) : OptP (biD .abs [.int i]) R := ⟨_, rfl, h⟩
theorem OptP.tup_l {xs : List D} (h : R (.tuple xs)) : OptP (biD .tuple [.list xs]) R := ⟨_, rfl, h⟩
theorem OptP.tup_t {xs : List D} (h : R (.tuple xs)) : OptP (biD .tuple [.tuple xs]) R := ⟨_, rfl, h⟩
theorem OptP.lst_l {xs : List D} (h : R (.list xs)) : OptP (biD .list [.list xs]) R := ⟨_, rfl, h⟩
theorem OptP.lst_t {xs : List D} (h : R (.list xs)) : OptP (biD .list [.tuple xs]) R := ⟨_, rfl, h⟩
theorem OptP.max2 {i j : Int} (h : R (.int (if j > i then j else i))) : OptP (biD .max2 [.int i, .int j]) R := ⟨_, rfl, h⟩
theorem OptP.min2 {i j : Int} (h : R (.int (if j < i then j else i))) : OptP (biD .min2 [.int i, .int j]) R := ⟨_, rfl, h⟩
theorem OptP.sum {ns : List Int} (h : R (.int ns.sum)) : OptP (biD .sum [.list (ns.map .int)]) R := ⟨_, by simp only [biD, sumD, ints_map, Option.map_some], h⟩
theorem bools_map' : ∀ (bs : List Bool), boolsD (bs.map .bool) = some bs
  | [] => rfl
  | x :: xs => by simp [boolsD, bools_map' xs]
theorem OptP.all {bs : List Bool} (h : R (.bool (bs.all id))) : OptP (biD .all [.list (bs.map .bool)]) R := ⟨_, by simp only [biD, allD, bools_map', Option.map_some], h⟩
theorem OptP.any {bs : List Bool} (h : R (.bool (bs.any id))) : OptP (biD .any [.list (bs.map .bool)]) R := ⟨_, by simp only [biD, anyD, bools_map', Option.map_some], h⟩
theorem OptP.all_m {α : Type} {f : α → Bool} {xs : List α} (h : R (.bool (xs.all f))) : OptP (biD .all [.list (xs.map fun x => .bool (f x))]) R := OptP.mk (d := .bool (xs.all f)) (by simp only [biD, allD, bools_map, Option.map_some]; simp [List.all_map, Function.comp_def]) h
theorem OptP.any_m {α : Type} {f : α → Bool} {xs : List α} (h : R (.bool (xs.any f))) : OptP (biD .any [.list (xs.map fun x => .bool (f x))]) R := OptP.mk (d := .bool (xs.any f)) (by simp only [biD, anyD, bools_map, Option.map_some]; simp [List.any_map, Function.comp_def]) h
theorem OptP.srt {ns : List Int} (h : R (.list ((ns.mergeSort fun a b => decide (a ≤ b)).map .int))) : OptP (biD .sorted [.list (ns.map .int)]) R := ⟨_, by simp only [biD, srtC, sortOk_ints, sortD_ints, if_pos], h⟩
theorem OptP.dm {i j : Int} (l : 0 < j ∧ j < 1073741824) (h : R (.tuple [.int (i / j), .int (i % j)])) : OptP (biD .divmod [.int i, .int j]) R := ⟨_, dm_ok i j l, h⟩
/-! items -/
theorem OptP.ix_t {xs : List D} {i : Int} (j : Nat) (e : i = j) (l : j < xs.length) (h : R xs[j]) : OptP (getD (.tuple xs) (.int i)) R := by
  subst e; exact ⟨_, getD_nat_t xs j l, h⟩
theorem OptP.ix_l {xs : List D} {i : Int} (j : Nat) (e : i = j) (l : j < xs.length) (h : R xs[j]) : OptP (getD (.list xs) (.int i)) R := by
  subst e; exact ⟨_, getD_nat_l xs j l, h⟩
theorem OptP.ix_tm {α : Type} {f : α → D} {xs : List α} {i : Int} (j : Nat) (e : i = j) (l : j < xs.length) (h : R (f xs[j])) : OptP (getD (.tuple (xs.map f)) (.int i)) R := by
  subst e; exact ⟨_, getD_nat_t (xs.map f) j (by simpa using l), by simpa using h⟩
theorem OptP.ix_lm {α : Type} {f : α → D} {xs : List α} {i : Int} (j : Nat) (e : i = j) (l : j < xs.length) (h : R (f xs[j])) : OptP (getD (.list (xs.map f)) (.int i)) R := by
  subst e; exact ⟨_, getD_nat_l (xs.map f) j (by simpa using l), by simpa using h⟩
theorem OptP.ix_tn {α : Type} {f : α → D} {xs : List α} {j : Nat} (l : j < xs.length) (h : R (f xs[j])) : OptP (getD (.tuple (xs.map f)) (.int (j : Int))) R := OptP.ix_tm j rfl l h
theorem OptP.ix_ln {α : Type} {f : α → D} {xs : List α} {j : Nat} (l : j < xs.length) (h : R (f xs[j])) : OptP (getD (.list (xs.map f)) (.int (j : Int))) R := OptP.ix_lm j rfl l h
theorem OptP.ix_rfl {x y d : D} (l : getD x y = some d) (h : R d) : OptP (getD x y) R := ⟨d, l, h⟩
theorem OptP.isi_rfl {t : String} {d : D} {b : Bool} (l : isTy d t = some b) (h : R (.bool b)) : OptP (biD (.isi t) [d]) R := ⟨_, by simp only [biD, isiD, l, Option.map_some], h⟩
theorem OptP.isi_i {i : Int} (h : R (.bool true)) : OptP (biD (.isi "int") [.int i]) R := OptP.isi_rfl rfl h
theorem OptP.isi_t {i : List D} (h : R (.bool true)) : OptP (biD (.isi "tuple") [.tuple i]) R := OptP.isi_rfl rfl h
/-! slices -/
theorem OptP.sl_lo {xs : List D} {i : Int} (j : Nat) (e : i = j) (l : j ≤ xs.length) (h : R (.tuple (xs.drop j))) : OptP (sliceD (.tuple xs) (some i) none) R := by
  subst e
  have : cutL xs (some (j : Int)) none = xs.drop j := by
    unfold cutL
    rw [HT.sIx_nat, HT.sIx_none, Nat.min_eq_left l]
    apply List.take_of_length_le
    simp
  exact ⟨_, rfl, by rw [this]; exact h⟩
theorem OptP.sl_hi {xs : List D} {i : Int} (j : Nat) (e : i = j) (l : j ≤ xs.length) (h : R (.tuple (xs.take j))) : OptP (sliceD (.tuple xs) none (some i)) R := by
  subst e
  have : cutL xs none (some (j : Int)) = xs.take j := by
    unfold cutL
    rw [HT.sIx_nat, HT.sIx_none]
    simp [Nat.min_eq_left l]
  exact ⟨_, rfl, by rw [this]; exact h⟩
theorem OptP.sl_n {xs : List D} {j : Nat} (l : j ≤ xs.length) (h : R (.tuple (xs.drop j))) : OptP (sliceD (.tuple xs) (some (j : Int)) none) R := OptP.sl_lo j rfl l h
theorem OptP.sl_m {xs : List D} {j : Nat} (l : j ≤ xs.length) (h : R (.tuple (xs.take j))) : OptP (sliceD (.tuple xs) none (some (j : Int))) R := OptP.sl_hi j rfl l h
theorem OptP.sl_n1 {xs : List D} (l : 1 ≤ xs.length) (h : R (.tuple (xs.drop 1))) : OptP (sliceD (.tuple xs) (some 1) none) R := OptP.sl_lo 1 rfl l h
theorem OptP.sl_m1 {xs : List D} (l : 1 ≤ xs.length) (h : R (.tuple (xs.take 1))) : OptP (sliceD (.tuple xs) none (some 1)) R := OptP.sl_hi 1 rfl l h
theorem OptP.sl_rfl {x d : D} {l u : Option Int} (e : sliceD x l u = some d) (h : R d) : OptP (sliceD x l u) R := ⟨d, e, h⟩
theorem OptP.rev_t {xs : List D} (h : R (.tuple xs.reverse)) : OptP (revD (.tuple xs)) R := ⟨_, rfl, h⟩
theorem OptP.rev_l {xs : List D} (h : R (.list xs.reverse)) : OptP (revD (.list xs)) R := ⟨_, rfl, h⟩
theorem OptP.index_t {ns : List Int} {i : Int} (l : i ∈ ns) (h : R (.int (ns.idxOf i))) : OptP (mtD .index (.tuple (ns.map .int)) [.int i]) R := ⟨_, by simp only [mtD, ints_map, Option.bind_some, if_pos l], h⟩
theorem OptP.index_l {ns : List Int} {i : Int} (l : i ∈ ns) (h : R (.int (ns.idxOf i))) : OptP (mtD .index (.list (ns.map .int)) [.int i]) R := ⟨_, by simp only [mtD, ints_map, Option.bind_some, if_pos l], h⟩
/-! ranges -/
theorem OptL.rng {i : Int} (l : -10000 ≤ i ∧ i ≤ 10000) {R : List D → Prop} (h : R ((rangeI i.toNat).map .int)) : OptL (rangeD [.int i]) R := by
  by_cases h0 : 0 ≤ i
  · obtain ⟨n, rfl⟩ := Int.eq_ofNat_of_zero_le h0
    exact ⟨_, range_len (by omega), h⟩
  · have e : i.toNat = 0 := by omega
    rw [e] at h
    have hb : -(2 ^ 62) ≤ i := by omega
    have h3 : i < 2 ^ 62 := by omega
    have h4 : i.toNat ≤ LIM := by rw [LIM_eq]; omega
    refine ⟨[], ?_, h⟩
    simp only [rangeD]
    rw [if_pos (by rw [decide_eq_true hb, decide_eq_true h3, decide_eq_true h4]; rfl), e]
    rfl
def rangeF (i : Int) (n : Nat) : List Int := (List.range n).map fun (k : Nat) => i + (k : Int)
theorem OptL.rng2 {i j : Int} (l : -10000 ≤ i ∧ i ≤ 10000) (l2 : -10000 ≤ j ∧ j ≤ 10000) {R : List D → Prop} (h : R ((rangeF i (j - i).toNat).map .int)) : OptL (rangeD [.int i, .int j]) R := by
  have h1 : -(2 ^ 62) ≤ i := by omega
  have h2 : i < 2 ^ 62 := by omega
  have h3 : -(2 ^ 62) ≤ j := by omega
  have h4 : j < 2 ^ 62 := by omega
  have h5 : (j - i).toNat ≤ LIM := by rw [LIM_eq]; omega
  refine ⟨(rangeF i (j - i).toNat).map .int, ?_, h⟩
  simp only [rangeD]
  rw [if_pos (by rw [decide_eq_true h1, decide_eq_true h2, decide_eq_true h3, decide_eq_true h4, decide_eq_true h5]; rfl)]
  simp [rangeF, Function.comp_def]
end ops
/-! ### targets -/
def BindP (g : Pat) (d : D) (e : En) (R : En → Prop) : Prop := ∃ e', bindP g d e = some e' ∧ R e'
def BindsP (g : List Pat) (d : List D) (e : En) (R : En → Prop) : Prop := ∃ e', bindPs g d e = some e' ∧ R e'
theorem BindP.nm {i : Nat} {d : D} {R : En → Prop} (h : SetP en i (some (d, 0)) R) : BindP (.nm i) d en R := ⟨_, by rw [bindP, if_pos h.1], h.2⟩
theorem BindP.tp {ps : List Pat} {ds : List D} {R : En → Prop} (h : BindsP ps ds en R) : BindP (.tp ps) (.tuple ds) en R := by
  obtain ⟨e', h1, h2⟩ := h
  exact ⟨e', by rw [bindP]; exact h1, h2⟩
theorem BindsP.n {R : En → Prop} (h : R en) : BindsP [] [] en R := ⟨en, rfl, h⟩
theorem BindsP.c {p : Pat} {ps : List Pat} {d : D} {ds : List D} {R : En → Prop} (h : BindP p d en fun e => BindsP ps ds e R) : BindsP (p :: ps) (d :: ds) en R := by
  obtain ⟨e1, h1, e2, h2, h3⟩ := h
  refine ⟨e2, ?_, h3⟩
  rw [bindPs, h1]
  exact h2
/-- the items that are walked -/
def ItP (d : D) (k : Kd) (R : List D → List Nat → Prop) : Prop := ∃ xs, itemsD (d, k) = some xs ∧ R xs (rootsOf (d, k))
theorem ItP.lo {xs : List D} {n : Nat} {R : List D → List Nat → Prop} (h : R xs []) : ItP (.list xs) (.own n) R := ⟨xs, rfl, h⟩
theorem ItP.to {xs : List D} {n : Nat} {R : List D → List Nat → Prop} (h : R xs []) : ItP (.tuple xs) (.own n) R := ⟨xs, rfl, h⟩
theorem ItP.lr {xs : List D} {i : Nat} {w : Bool} {R : List D → List Nat → Prop} (h : R xs [i]) : ItP (.list xs) (.root i 1 w) R := ⟨xs, rfl, h⟩
theorem IP.seq {e : E} {Q : List D → List Nat → En → Prop} (h : EP C e en (fun d k e1 => ItP d k fun xs rts => Q xs rts e1) X) : IP C (.seq e) en Q X := by
  unfold EP at h
  unfold IP
  rw [evI]
  refine Out.P_bind (Out.P_mono h (fun r e1 h => ?_) fun _ _ h => h)
  obtain ⟨xs, h1, h2⟩ := h
  simp only [h1]
  exact h2
theorem IP.rng {es : EL} {Q : List D → List Nat → En → Prop} (h : LP C es en (fun ds ks e1 => OptL (rangeD ds) fun xs => Q xs [] e1) X) : IP C (.rng es) en Q X := by
  unfold LP at h
  unfold IP
  rw [evI]
  refine Out.P_bind (Out.P_mono h (fun r e1 h => ?_) fun _ _ h => h)
  obtain ⟨xs, h1, h2⟩ := h
  simp only [h1]
  exact h2
theorem IP.enum {e : E} {Q : List D → List Nat → En → Prop} (h : EP C e en (fun d k e1 => ItP d k fun xs rts => Q (enumD xs) rts e1) X) : IP C (.enum e) en Q X := by
  unfold EP at h
  unfold IP
  rw [evI]
  refine Out.P_bind (Out.P_mono h (fun r e1 h => ?_) fun _ _ h => h)
  obtain ⟨xs, h1, h2⟩ := h
  simp only [h1]
  exact h2
theorem IP.zip {a b : E} {Q : List D → List Nat → En → Prop} (h : EP C a en (fun x kx e1 => EP C b e1 (fun y ky e2 => Chk (pend (x, kx) (muE b) && sameSq x y) (ItP x kx fun xs r1 => ItP y ky fun ys r2 => Q (zipD xs ys) (r1 ++ r2) e2)) X) X) : IP C (.zip a b) en Q X := by
  unfold EP at h
  unfold IP
  rw [evI]
  refine Out.P_bind (Out.P_mono h (fun r e1 h => Out.P_bind (Out.P_mono h (fun s e2 h => ?_) fun _ _ h => h)) fun _ _ h => h)
  obtain ⟨h0, xs, h1, ys, h2, h3⟩ := h
  simp only [h0, if_pos, h1, h2]
  exact h3
/-! ### statements -/
section st
variable {N : En → Prop} {R : D → Nat → En → Prop}
theorem SsP.nil (h : N en) : SsP C W .nil en N R X := h
theorem SsP.cons {s : S} {r : SL} (h : SP C W s en (fun e => SsP C W r e N R X) R X) : SsP C W (.cons s r) en N R X := by
  unfold SP at h
  unfold SsP
  rw [exs, fls]
  refine Out.P_bind (Out.P_mono h (fun fl e1 h => ?_) fun _ _ h => h)
  cases fl with
  | nx => exact h
  | rt d k => exact h
theorem SP.pass (h : N en) : SP C W .pass en N R X := h
theorem SP.ret {e : E} (h : EP C e en (fun d k e1 => KeepP d k fun n => R d n e1) X) : SP C W (.ret e) en N R X := by
  unfold EP at h
  unfold SP
  rw [ex]
  refine Out.P_bind (Out.P_mono h (fun r e1 h => ?_) fun _ _ h => h)
  obtain ⟨n, h1, h2⟩ := h
  simp only [h1]
  exact h2
theorem SP.retN (h : R .none 0 en) : SP C W .retN en N R X := h
theorem SP.ex {e : E} (h : EP C e en (fun d k e1 => N e1) X) : SP C W (.ex e) en N R X := by
  unfold EP at h
  unfold SP
  rw [QQ.ex]
  exact Out.P_bind (Out.P_mono h (fun r e1 h => h) fun _ _ h => h)
theorem SP.asg {i : Nat} {e : E} (h : EP C e en (fun d k e1 => FlagP d k fun n => SetP e1 i (some (d, n)) N) X) : SP C W (.asg (.nm i) e) en N R X := by
  unfold EP at h
  unfold SP
  rw [QQ.ex]
  refine Out.P_bind (Out.P_mono h (fun r e1 h => ?_) fun _ _ h => h)
  obtain ⟨n, h1, h2, h3⟩ := h
  simp only [asgN, h1, if_pos h2, opt]
  exact h3
theorem SP.asgt {ps : List Pat} {e : E} (h : EP C e en (fun d k e1 => Chk (keepK (d, k)).isSome (BindP (.tp ps) d e1 N)) X) : SP C W (.asg (.tp ps) e) en N R X := by
  unfold EP at h
  unfold SP
  rw [QQ.ex.eq_def]
  refine Out.P_bind (Out.P_mono h (fun r e1 h => ?_) fun _ _ h => h)
  obtain ⟨h1, e', h2, h3⟩ := h
  obtain ⟨n, h1⟩ := Option.isSome_iff_exists.mp h1
  simp only [h1, h2, opt]
  exact h3
/-- the truth of a test -/
theorem BP.mk {e : E} {Q : Bool → En → Prop} (h : EP C e en (fun d k e1 => BoolP d fun b => Q b e1) X) : BP C e en Q X := by
  unfold EP at h
  unfold BP evB
  refine Out.P_bind (Out.P_mono h (fun r e1 h => ?_) fun _ _ h => h)
  obtain ⟨b, h1, h2⟩ := h
  rw [h1]
  exact h2
theorem SP.ite {c : E} {a b : SL} (h : EP C c en (fun d k e1 => BoolP d fun t => IfP t (SsP C W a e1 N R X) (SsP C W b e1 N R X)) X) : SP C W (.ite c a b) en N R X := by
  have h := BP.mk (Q := fun t e1 => IfP t (SsP C W a e1 N R X) (SsP C W b e1 N R X)) h
  unfold BP at h
  unfold SP
  rw [QQ.ex]
  refine Out.P_bind (Out.P_mono h (fun t e1 h => ?_) fun _ _ h => h)
  cases t with
  | true => exact h.1 rfl
  | false => exact h.2 rfl
def NsP (is : List Nat) (ds : List D) (ks : List Kd) (e : En) (R : En → Prop) : Prop := ∃ e', asgNs is (ds.zip ks) e = some e' ∧ R e'
theorem NsP.n {R : En → Prop} (h : R en) : NsP [] [] [] en R := ⟨en, rfl, h⟩
theorem NsP.c {i : Nat} {is : List Nat} {d : D} {k : Kd} {ds : List D} {ks : List Kd} {R : En → Prop} (h : FlagP d k fun n => SetP en i (some (d, n)) fun e => NsP is ds ks e R) : NsP (i :: is) (d :: ds) (k :: ks) en R := by
  obtain ⟨n, h1, h2, e', h3, h4⟩ := h
  refine ⟨e', ?_, h4⟩
  show asgNs (i :: is) ((d, k) :: ds.zip ks) en = some e'
  rw [asgNs, asgN, h1]
  simp only [if_pos h2]
  exact h3
theorem SP.par {is : List Nat} {es : EL} (h : LP C es en (fun ds ks e1 => Chk ((ds.zip ks).all ownK) (NsP is ds ks e1 N)) X) : SP C W (.par is es) en N R X := by
  unfold LP at h
  unfold SP
  rw [QQ.ex]
  refine Out.P_bind (Out.P_mono h (fun r e1 h => ?_) fun _ _ h => h)
  obtain ⟨h1, e', h2, h3⟩ := h
  simp only [zip_fs] at h1 h2
  simp only [h1, if_pos, h2, opt]
  exact h3
theorem SP.aug_int {i : Nat} {o : BO} {e : E} {x : Int} (g : en[i]? = some (some (.int x, 0))) (a : (isAug o (.int x) && !(muE e).contains i) = true) (h : EP C e en (fun y k e1 => IntP y fun j => OptP (binD o (.int x) (.int j)) fun d => SetP e1 i (some (d, 0)) N) X) : SP C W (.aug i o e) en N R X := by
  unfold EP at h
  unfold SP
  rw [QQ.ex, g]
  simp only [a, if_pos]
  refine Out.P_bind (Out.P_mono h (fun r e1 h => ?_) fun _ _ h => h)
  obtain ⟨j, h1, d, h2, h3, h4⟩ := h
  rw [h1]
  have f0 : flagOf d 0 = 0 := flag0 d
  simp only [augD, h2, asgN, keepK, if_pos h3, opt, f0]
  exact h4
/-- x[i] = v, v plain or its own -/
theorem SP.set1 {i : Nat} {p e : E} (h : EP C e en (fun d k e1 => Chk (isLst e1 i && !(muE p ++ []).contains i) (EP C p e1 (fun y ky e2 => Chk (pend (d, k) (muE p ++ []) && (keepK (d, k)).isSome) (∃ xs n j, e2[i]? = some (some (.list xs, n)) ∧ setOk n 1 (d, k) = true ∧ y = .int (j : Nat) ∧ j < xs.length ∧ SetP e2 i (some (.list (xs.set j d), n)) N)) X)) X) : SP C W (.set i (.cons p .nil) e) en N R X := by
  unfold EP at h
  unfold SP
  rw [QQ.ex]
  refine Out.P_bind (Out.P_mono h (fun r e1 h => ?_) fun _ _ h => h)
  obtain ⟨h0, h⟩ := h
  have em : muL (.cons p .nil) = muE p ++ [] := by simp [muL]
  rw [em, if_pos h0, evL]
  refine Out.P_bind (Out.P_bind (Out.P_mono h (fun s e2 h => ?_) fun _ _ h => h))
  obtain ⟨h1, xs, n, j, h2, h3, h4, h5, h6, h7⟩ := h
  rw [evL]
  have hp : pend s (muL .nil) = true := by
    unfold pend
    split <;> simp [muL]
  rw [Out.bind_ok, if_pos hp]
  show Out.P _ _ (if _ then _ else _)
  rw [if_pos h1]
  have hs := setD_nat xs j r.1 h5
  simp only [setS, h2, dsOf, List.map_cons, List.map_nil, List.length_cons, List.length_nil, Nat.zero_add, h3, if_pos, h4, setP, hs, Option.map_some, opt]
  exact h7
/-- a for: an invariant of what is done, what is still to come -/
def ForP (C : Orc) (W : Nat) (g : Pat) (body : SL) (ds : List D) (rts : List Nat) (e1 : En) (N : En → Prop) (R : D → Nat → En → Prop) (X : D → En → Prop) : Prop := (rts.all fun i => !(ptL g ++ muSs body).contains i) = true ∧ ∃ (α : Type) (f : α → D) (xs : List α) (I : List α → List α → En → Prop), ds = xs.map f ∧ I [] xs e1 ∧ (∀ done x rest e, xs = done ++ x :: rest → I done (x :: rest) e → BindP g (f x) e fun e' => SsP C W body e' (I (done ++ [x]) rest) R X) ∧ ∀ e, I xs [] e → N e
theorem ForP.mk {α : Type} (f : α → D) (xs : List α) (I : List α → List α → En → Prop) {g : Pat} {body : SL} {ds : List D} {rts : List Nat} (h0 : (rts.all fun i => !(ptL g ++ muSs body).contains i) = true) (h1 : ds = xs.map f) (h2 : I [] xs en) (h3 : ∀ done x rest e, xs = done ++ x :: rest → I done (x :: rest) e → BindP g (f x) e fun e' => SsP C W body e' (I (done ++ [x]) rest) R X) (h4 : ∀ e, I xs [] e → N e) : ForP C W g body ds rts en N R X := ⟨h0, α, f, xs, I, h1, h2, h3, h4⟩
/-- .. of data, an invariant of the slots alone -/
theorem ForP.sl (I : En → Prop) {g : Pat} {body : SL} {ds : List D} {rts : List Nat} (h0 : (rts.all fun i => !(ptL g ++ muSs body).contains i) = true) (h2 : I en) (h3 : ∀ d ∈ ds, ∀ e, I e → BindP g d e fun e' => SsP C W body e' I R X) (h4 : ∀ e, I e → N e) : ForP C W g body ds rts en N R X := ⟨h0, D, id, ds, fun _ _ => I, by simp, h2, fun done x rest e hx hI => h3 x (by rw [hx]; simp) e hI, h4⟩
theorem ForP.dat (I : List D → List D → En → Prop) {g : Pat} {body : SL} {ds : List D} {rts : List Nat} (h0 : (rts.all fun i => !(ptL g ++ muSs body).contains i) = true) (h2 : I [] ds en) (h3 : ∀ done x rest e, ds = done ++ x :: rest → I done (x :: rest) e → BindP g x e fun e' => SsP C W body e' (I (done ++ [x]) rest) R X) (h4 : ∀ e, I ds [] e → N e) : ForP C W g body ds rts en N R X := ⟨h0, D, id, ds, I, by simp, h2, h3, h4⟩
theorem SP.for {g : Pat} {it : IT} {body : SL} (h : IP C it en (fun ds rts e1 => ForP C W g body ds rts e1 N R X) X) : SP C W (.for_ g it body) en N R X := by
  unfold IP at h
  unfold SP
  rw [QQ.ex]
  refine Out.P_bind (Out.P_mono h (fun r e1 h => ?_) fun _ _ h => h)
  obtain ⟨h0, α, f, xs, I, h1, h2, h3, h4⟩ := h
  rw [if_pos h0, h1]
  clear h1 h0
  have go : ∀ (rest done : List α) (e : En), xs = done ++ rest → I done rest e → (forL (fun d e => match bindP g d e with
        | some e' => exs C W body e'
        | none => .stuck) (rest.map f) e).P (FlQ N R) X := by
    intro rest
    induction rest with
    | nil =>
      intro done e hx hI
      have : xs = done := by simpa using hx
      rw [← this] at hI
      exact h4 e hI
    | cons x rest ih =>
      intro done e hx hI
      obtain ⟨e', hb, hs⟩ := h3 done x rest e hx hI
      rw [List.map_cons, forL, fls]
      simp only [hb]
      unfold SsP at hs
      refine Out.P_bind (Out.P_mono hs (fun fl e2 h => ?_) fun _ _ h => h)
      cases fl with
      | nx => exact ih (done ++ [x]) e2 (by rw [hx]; simp) h
      | rt d k => exact h
  exact go xs [] e1 rfl h2
/-- a while: an invariant and a number that falls -/
theorem SP.whl {c : E} {body : SL} (I : Nat → En → Prop) (m : Nat) (hm : m < W) (h0 : I m en) (h : ∀ k e, I k e → EP C c e (fun d kd e1 => BoolP d fun t => IfP t (SsP C W body e1 (fun e2 => ∃ k', k' < k ∧ I k' e2) R X) (N e1)) X) : SP C W (.whl c body) en N R X := by
  unfold SP
  rw [QQ.ex]
  have go : ∀ (w k : Nat) (e : En), k < w → I k e → (whlL (evB C c) (exs C W body) w e).P (FlQ N R) X := by
    intro w
    induction w with
    | zero => intro k e hk; omega
    | succ w ih =>
      intro k e hk hI
      have h1 := BP.mk (Q := fun t e1 => IfP t (SsP C W body e1 (fun e2 => ∃ k', k' < k ∧ I k' e2) R X) (N e1)) (h k e hI)
      unfold BP at h1
      rw [whlL]
      refine Out.P_bind (Out.P_mono h1 (fun t e1 h => ?_) fun _ _ h => h)
      cases t with
      | false => exact h.2 rfl
      | true =>
        have h := h.1 rfl
        unfold SsP at h
        simp only [if_pos]
        rw [fls]
        refine Out.P_bind (Out.P_mono h (fun fl e2 h => ?_) fun _ _ h => h)
        cases fl with
        | nx =>
          obtain ⟨k', hk', hI'⟩ := h
          exact ih k' e2 (by omega) hI'
        | rt d k => exact h
  exact go W m en hm h0
end st
/-! ### comprehensions -/
theorem TP.nil {Q : Bool → En → Prop} (h : Q true en) : TP C .nil en Q X := h
theorem TP.cons {a : E} {es : EL} {Q : Bool → En → Prop} (h : EP C a en (fun x kx e1 => BoolP x fun t => IfP t (TP C es e1 Q X) (Q false e1)) X) : TP C (.cons a es) en Q X := by
  unfold EP at h
  unfold TP
  rw [evAnd1]
  refine Out.P_bind (Out.P_mono h (fun r e1 h => ?_) fun _ _ h => h)
  obtain ⟨b, h1, h2⟩ := h
  rw [h1]
  cases b with
  | true => exact h2.1 rfl
  | false => exact h2.2 rfl
/-- a comprehension whose turns change nothing: each gives what G says -/
def LcP (C : Orc) (k : Nat) (own : List Nat) (g : Pat) (ifs : EL) (elt : E) (ds : List D) (e0 : En) (Q : D → Kd → En → Prop) : Prop := ∃ (α : Type) (f : α → D) (xs : List α) (G : α → Option D), ds = xs.map f ∧ xs.length ≤ 16777216 ∧ (∀ x ∈ xs, BindP g (f x) e0 fun e' => TP C ifs e' (fun b e2 => IfP b (EP C elt e2 (fun d kd e3 => Chk (keepItem k (d, kd) && (keepK (d, kd)).isSome) (G x = some d ∧ WipeP e3 own fun e4 => e4 = e0)) NoX) (G x = none ∧ WipeP e2 own fun e4 => e4 = e0)) NoX) ∧ Q (.list (xs.filterMap G)) (.own k) e0
theorem LcP.mk {α : Type} (f : α → D) (xs : List α) (G : α → Option D) {k : Nat} {own : List Nat} {g : Pat} {ifs : EL} {elt : E} {ds : List D} {Q : D → Kd → En → Prop} (h1 : ds = xs.map f) (h2 : xs.length ≤ 16777216) (h3 : ∀ x ∈ xs, BindP g (f x) en fun e' => TP C ifs e' (fun b e2 => IfP b (EP C elt e2 (fun d kd e3 => Chk (keepItem k (d, kd) && (keepK (d, kd)).isSome) (G x = some d ∧ WipeP e3 own fun e4 => e4 = en)) NoX) (G x = none ∧ WipeP e2 own fun e4 => e4 = en)) NoX) (h4 : Q (.list (xs.filterMap G)) (.own k) en) : LcP C k own g ifs elt ds en Q := ⟨α, f, xs, G, h1, h2, h3, h4⟩
/-- .. a map -/
theorem LcP.map {α : Type} (f : α → D) (xs : List α) (F : α → D) {k : Nat} {own : List Nat} {g : Pat} {elt : E} {ds : List D} {Q : D → Kd → En → Prop} (h1 : ds = xs.map f) (h2 : xs.length ≤ 16777216) (h3 : ∀ x ∈ xs, BindP g (f x) en fun e' => EP C elt e' (fun d kd e3 => Chk (keepItem k (d, kd) && (keepK (d, kd)).isSome) (d = F x ∧ WipeP e3 own fun e4 => e4 = en)) NoX) (h4 : Q (.list (xs.map F)) (.own k) en) : LcP C k own g .nil elt ds en Q := by
  refine ⟨α, f, xs, fun x => some (F x), h1, h2, fun x hx => ?_, ?_⟩
  · obtain ⟨e', hb, h⟩ := h3 x hx
    refine ⟨e', hb, ⟨fun _ => ?_, fun z => (nomatch z)⟩⟩
    unfold EP at h ⊢
    exact Out.P_mono h (fun r e h => ⟨h.1, by rw [h.2.1], h.2.2⟩) fun _ _ h => h
  · have : xs.filterMap (fun x => some (F x)) = xs.map F := by
      clear h3 h4 h2 h1
      induction xs with
      | nil => rfl
      | cons x xs ih => simp [ih]
    rw [this]; exact h4
/-- .. a map of those that pass a test -/
theorem LcP.flt {α : Type} (f : α → D) (xs : List α) (p : α → Bool) (F : α → D) {k : Nat} {own : List Nat} {g : Pat} {ifs : EL} {elt : E} {ds : List D} {Q : D → Kd → En → Prop} (h1 : ds = xs.map f) (h2 : xs.length ≤ 16777216) (h3 : ∀ x ∈ xs, BindP g (f x) en fun e' => TP C ifs e' (fun b e2 => b = p x ∧ IfP b (EP C elt e2 (fun d kd e3 => Chk (keepItem k (d, kd) && (keepK (d, kd)).isSome) (d = F x ∧ WipeP e3 own fun e4 => e4 = en)) NoX) (WipeP e2 own fun e4 => e4 = en)) NoX) (h4 : Q (.list ((xs.filter p).map F)) (.own k) en) : LcP C k own g ifs elt ds en Q := by
  refine ⟨α, f, xs, fun x => if p x then some (F x) else none, h1, h2, fun x hx => ?_, ?_⟩
  · obtain ⟨e', hb, h⟩ := h3 x hx
    refine ⟨e', hb, ?_⟩
    unfold TP at h ⊢
    refine Out.P_mono h (fun b e2 ⟨hp, h⟩ => ?_) fun _ _ h => h
    cases b with
    | true =>
      refine ⟨fun _ => ?_, fun z => (nomatch z)⟩
      have h := h.1 rfl
      unfold EP at h ⊢
      exact Out.P_mono h (fun r e h => ⟨h.1, by simp [h.2.1, ← hp], h.2.2⟩) fun _ _ h => h
    | false =>
      refine ⟨fun z => (nomatch z), fun _ => ⟨by simp [← hp], h.2 rfl⟩⟩
  · have : xs.filterMap (fun x => if p x then some (F x) else none) = (xs.filter p).map F := by
      clear h3 h4 h2 h1
      induction xs with
      | nil => rfl
      | cons x xs ih => cases h : p x <;> simp [h, ih]
    rw [this]; exact h4
theorem EP.lcG {k : Nat} {own : List Nat} {g : Pat} {it : IT} {ifs : EL} {elt : E} {Q : D → Kd → En → Prop} (h : IP C it en (fun ds rts e1 => Chk (rts.all fun i => !(own ++ muL ifs ++ muE elt).contains i) (WipeP e1 own fun e0 => LcP C k own g ifs elt ds e0 Q)) X) : EP C (.lc k own g it ifs elt) en Q X := by
  unfold IP at h
  unfold EP
  rw [ev]
  refine Out.P_bind (Out.P_mono h (fun r e1 h => ?_) fun _ _ h => h)
  obtain ⟨h0, α, f, xs, G, h1, h2, h3, h4⟩ := h
  rw [if_pos h0, h1]
  have go : ∀ (xs : List α) (acc : List D), (∀ x ∈ xs, BindP g (f x) (wipeE e1 own) fun e' => TP C ifs e' (fun b e2 => IfP b (EP C elt e2 (fun d kd e3 => Chk (keepItem k (d, kd) && (keepK (d, kd)).isSome) (G x = some d ∧ WipeP e3 own fun e4 => e4 = (wipeE e1 own))) NoX) (G x = none ∧ WipeP e2 own fun e4 => e4 = (wipeE e1 own))) NoX) → acc.length + xs.length ≤ LIM →
      lcL (lcT k g (fun e => evAnd1 C ifs e) (fun e => ev C elt e)) own (xs.map f) acc (wipeE e1 own) = .ok (acc ++ xs.filterMap G) (wipeE e1 own) := by
    intro xs
    induction xs with
    | nil => intro acc _ _; simp [lcL]
    | cons x xs ih =>
      intro acc h hl
      obtain ⟨e', hb, ht⟩ := h x (List.mem_cons_self ..)
      unfold TP at ht
      have hl2 : acc.length < LIM := by simp at hl; omega
      rw [List.map_cons, lcL]
      unfold lcT
      simp only [hb]
      cases q : evAnd1 C ifs e' with
      | stuck => rw [q] at ht; exact ht.elim
      | exc a b => rw [q] at ht; exact ht.elim
      | ok b e2 =>
        rw [q] at ht
        simp only [Out.bind_ok]
        cases b with
        | false =>
          obtain ⟨h5, h6⟩ := ht.2 rfl
          simp only [Bool.false_eq_true, if_false]
          have h6 : wipeE e2 own = wipeE e1 own := h6
          have ih := ih acc (fun z hz => h z (List.mem_cons_of_mem _ hz)) (by simp at hl; omega)
          unfold lcT at ih
          rw [h6, ih]
          simp [h5]
        | true =>
          have ht := ht.1 rfl
          unfold EP at ht
          simp only [if_pos]
          cases q2 : ev C elt e2 with
          | stuck => rw [q2] at ht; exact ht.elim
          | exc a b => rw [q2] at ht; exact ht.elim
          | ok r e3 =>
            rw [q2] at ht
            obtain ⟨h5, h6, h7⟩ := ht
            have h7 : wipeE e3 own = wipeE e1 own := h7
            simp only [Out.bind_ok]
            rw [if_pos h5]
            simp only [if_pos hl2]
            have ih := ih (acc ++ [r.1]) (fun z hz => h z (List.mem_cons_of_mem _ hz)) (by simp at hl ⊢; omega)
            unfold lcT at ih
            rw [h7, ih]
            simp [h6]
  have := go xs [] h3 (by simpa using h2)
  rw [this]
  exact h4
/-- .. without tests: a map -/
theorem fm_all {α β : Type} {F : α → β} : ∀ (xs : List α), xs.filterMap (fun x => some (F x)) = xs.map F := fun xs => by
  induction xs with
  | nil => rfl
  | cons x xs ih => simp [ih]
theorem fm_if {α β : Type} {p : α → Bool} {F : α → β} : ∀ (xs : List α), xs.filterMap (fun x => if p x then some (F x) else none) = (xs.filter p).map F := fun xs => by
  induction xs with
  | nil => rfl
  | cons x xs ih => cases h : p x <;> simp [h, ih]

/-! ### defs -/
def FlR (io : List Nat) (Q : D → Nat → List D → Prop) (d : D) (k : Nat) (e : En) : Prop := ∃ ios, iosOut e 0 io = some ios ∧ Q d k ios
theorem FlR.n {Q : D → Nat → List D → Prop} {d : D} {k : Nat} {e : En} (h : Q d k []) : FlR [] Q d k e := ⟨[], rfl, h⟩
theorem FlR.p {Q : D → Nat → List D → Prop} {d p : D} {k : Nat} {e : En} (h : Q d k [p]) : FlR [1] Q d k (some (p, 1) :: e) := ⟨[p], rfl, h⟩
theorem KP.run {F : FD} {ds : List D} {Q : D → Nat → List D → Prop} (h : ds.length = F.np) (q : SsP C W F.body (startE F ds) (fun e => FlR F.io Q .none 0 e) (fun d k e => FlR F.io Q d k e) (fun x e => False)) : KP (runD C W F ds) Q NoC := by
  unfold runD
  rw [if_pos h]
  unfold SsP at q
  cases e : exs C W F.body (startE F ds) with
  | stuck => rw [e] at q; exact q.elim
  | exc x en => rw [e] at q; exact q.elim
  | ok fl en =>
    rw [e] at q
    cases fl with
    | nx =>
      obtain ⟨ios, h1, h2⟩ := q
      simp only [h1]
      exact h2
    | rt d k =>
      obtain ⟨ios, h1, h2⟩ := q
      simp only [h1]
      exact h2
/-- a def that hands nothing over: just this answer -/
theorem run_eq {F : FD} {ds : List D} {d : D} {k : Nat} (h : ds.length = F.np) (hi : F.io = []) (q : SsP C W F.body (startE F ds) (fun e => False) (fun d' k' e => d' = d ∧ k' = k) NoX) : runD C W F ds = .ret d k [] := by
  refine KP.get (KP.run h ?_)
  unfold SsP at q ⊢
  refine Out.P_mono q (fun fl e h => ?_) fun _ _ h => h
  cases fl with
  | nx => exact h.elim
  | rt d' k' =>
    obtain ⟨rfl, rfl⟩ := h
    exact ⟨[], by rw [hi]; rfl, rfl, rfl, rfl⟩
theorem KP.runB {F : FD} {ds : List D} {Q : D → Nat → List D → Prop} {b : SL} {e0 : En} {io : List Nat} (h : ds.length = F.np) (hb : F.body = b) (h0 : startE F ds = e0) (hi : F.io = io) (q : SsP C W b e0 (fun e => FlR io Q .none 0 e) (fun d k e => FlR io Q d k e) NoX) : KP (runD C W F ds) Q NoC := by
  subst hb h0 hi
  exact KP.run h q
theorem run_eqB {F : FD} {ds : List D} {d : D} {k : Nat} {b : SL} {e0 : En} (h : ds.length = F.np) (hi : F.io = []) (hb : F.body = b) (h0 : startE F ds = e0) (q : SsP C W b e0 (fun e => False) (fun d' k' e => d' = d ∧ k' = k) NoX) : runD C W F ds = .ret d k [] := by
  subst hb h0
  exact run_eq h hi q
end QQ
namespace QQ
open PySem L2 PyProof.Rows PySem.W
def topS (i : Nat) : Stmt := PySem.Challenge.pw_passedpairs_k06_whole_orders_and_races_o.main.body.getD i (.Pass ⟨0, 0, 0, 0⟩)
def b0 : SL := (.cons (.ret (.and_ (.bi (.isi "int") (.cons (.bw 0) .nil)) (.cons (.not_ (.bi (.isi "bool") (.cons (.bw 0) .nil))) .nil))) .nil)
def f0 : FD := { np := 1, ns := 1, io := [], body := b0 }
abbrev s0 : Stmt := topS 1
def d0 : DE := { x := "is_whole", st := s0, N := ["value"], ps := ["value"], F := f0, kb := [] }
def b1 : SL := (.cons (.ret (.and_ (.call 0 [] (.cons (.bw 0) .nil) []) (.cons (.ch2 .le .le (.bw 1) (.bw 0) (.bw 2)) .nil))) .nil)
def f1 : FD := { np := 3, ns := 3, io := [], body := b1 }
abbrev s1 : Stmt := topS 2
def d1 : DE := { x := "is_between", st := s1, N := ["value", "low", "high"], ps := ["value", "low", "high"], F := f1, kb := [] }
def b2 : SL := (.cons (.ret (.call 1 [] (.cons (.bw 0) (.cons (.cst (.int 0)) (.cons (.bw 1) .nil))) [])) .nil)
def f2 : FD := { np := 2, ns := 2, io := [], body := b2 }
abbrev s2 : Stmt := topS 3
def d2 : DE := { x := "is_up_to", st := s2, N := ["value", "most"], ps := ["value", "most"], F := f2, kb := [] }
def b3 : SL := (.cons (.ret (.and_ (.bi (.isi "tuple") (.cons (.bw 0) .nil)) (.cons (.ch2 .le .le (.bw 1) (.bi .len (.cons (.bw 0) .nil)) (.bw 2)) .nil))) .nil)
def f3 : FD := { np := 3, ns := 3, io := [], body := b3 }
abbrev s3 : Stmt := topS 4
def d3 : DE := { x := "is_tuple_up_to", st := s3, N := ["value", "low", "high"], ps := ["value", "low", "high"], F := f3, kb := [] }
def b4 : SL := (.cons (.ret (.call 3 [] (.cons (.bw 0) (.cons (.bw 1) (.cons (.bw 1) .nil))) [])) .nil)
def f4 : FD := { np := 2, ns := 2, io := [], body := b4 }
abbrev s4 : Stmt := topS 5
def d4 : DE := { x := "is_tuple_of", st := s4, N := ["value", "many"], ps := ["value", "many"], F := f4, kb := [] }
def b5 : SL := (.cons (.ret (.call 4 [] (.cons (.bw 0) (.cons (.cst (.int 2)) .nil)) [])) .nil)
def f5 : FD := { np := 1, ns := 1, io := [], body := b5 }
abbrev s5 : Stmt := topS 6
def d5 : DE := { x := "is_pair", st := s5, N := ["value"], ps := ["value"], F := f5, kb := [] }
def b6 : SL := (.cons (.ret (.and_ (.call 4 [] (.cons (.bw 0) (.cons (.bw 1) .nil)) []) (.cons (.bi .all (.cons (.lc 1 [3] (.nm 3) (.seq (.bw 0)) .nil (.calv 2 (.cons (.bw 3) .nil))) .nil)) .nil))) .nil)
def f6 : FD := { np := 3, ns := 4, io := [], body := b6 }
abbrev s6 : Stmt := topS 7
def d6 : DE := { x := "are_all", st := s6, N := ["value", "many", "is_one", "each"], ps := ["value", "many", "is_one"], F := f6, kb := [] }
def b7 : SL := (.cons (.ret (.bi .all (.cons (.lc 1 [1, 2] (.tp [(.nm 1), (.nm 2)]) (.enum (.bw 0)) .nil (.cmp .notin (.bw 2) (.sl (.bw 0) .none (.some (.bw 1))))) .nil))) .nil)
def f7 : FD := { np := 1, ns := 3, io := [], body := b7 }
abbrev s7 : Stmt := topS 8
def d7 : DE := { x := "are_unlike", st := s7, N := ["values", "at", "value"], ps := ["values"], F := f7, kb := [] }
def b8 : SL := (.cons (.ret (.call 2 [] (.cons (.bw 0) (.cons (.bin .sub (.bw 1) (.cst (.int 1))) .nil)) [])) .nil)
def f8 : FD := { np := 2, ns := 2, io := [], body := b8 }
abbrev s8 : Stmt := topS 11
def d8 : DE := { x := "is_runner_of", st := s8, N := ["value", "many"], ps := ["value", "many"], F := f8, kb := [] }
def b9 : SL := (.cons (.ret (.and_ (.callL 6 (.cons (.bw 0) (.cons (.bw 1) .nil)) 0 [1]) (.cons (.call 7 [] (.cons (.bw 0) .nil) []) .nil))) .nil)
def f9 : FD := { np := 2, ns := 3, io := [], body := b9 }
abbrev s9 : Stmt := topS 12
def d9 : DE := { x := "is_order_for", st := s9, N := ["value", "many", "each"], ps := ["value", "many"], F := f9, kb := [], lam := true }
def b10 : SL := (.cons (.ret (.and_ (.call 3 [] (.cons (.bw 0) (.cons (.cst (.int 1)) (.cons (.gl 0) .nil))) []) (.cons (.call 9 [] (.cons (.bw 0) (.cons (.bi .len (.cons (.bw 0) .nil)) .nil)) []) .nil))) .nil)
def f10 : FD := { np := 1, ns := 1, io := [], body := b10 }
abbrev s10 : Stmt := topS 13
def d10 : DE := { x := "is_order_of", st := s10, N := ["value"], ps := ["value"], F := f10, kb := [] }
def b11 : SL := (.cons (.ret (.and_ (.call 5 [] (.cons (.bw 0) .nil) []) (.cons (.call 10 [] (.cons (.ix (.bw 0) (.cst (.int 0))) .nil) []) (.cons (.call 9 [] (.cons (.ix (.bw 0) (.cst (.int 1))) (.cons (.bi .len (.cons (.ix (.bw 0) (.cst (.int 0))) .nil)) .nil)) []) .nil)))) .nil)
def f11 : FD := { np := 1, ns := 1, io := [], body := b11 }
abbrev s11 : Stmt := topS 14
def d11 : DE := { x := "is_race_of", st := s11, N := ["value"], ps := ["value"], F := f11, kb := [] }
def b12 : SL := (.cons (.ret (.call 10 [] (.cons (.bw 0) .nil) [])) .nil)
def f12 : FD := { np := 1, ns := 1, io := [], body := b12 }
abbrev s12 : Stmt := topS 16
def d12 : DE := { x := "is_order", st := s12, N := ["value"], ps := ["value"], F := f12, kb := [⟨0, ["value"], [0]⟩] }
def b13 : SL := (.cons (.ret (.call 11 [] (.cons (.bw 0) .nil) [])) .nil)
def f13 : FD := { np := 1, ns := 1, io := [], body := b13 }
abbrev s13 : Stmt := topS 17
def d13 : DE := { x := "is_race", st := s13, N := ["value"], ps := ["value"], F := f13, kb := [⟨0, ["value"], [0]⟩] }
def b14 : SL := (.cons (.par [2, 3] (.cons (.ite (.cmp .lt (.bw 1) (.bi .len (.cons (.bw 0) .nil))) (.bi .int (.cons (.ix (.bw 0) (.bw 1)) .nil)) (.bin .add (.bin .mul (.cst (.int 70001)) (.bw 1)) (.cst (.int 8746)))) (.cons (.bin .add (.cst (.int 1331326)) (.bin .mul (.cst (.int 5087)) (.bw 1))) .nil))) (.cons (.for_ (.nm 4) (.seq (.sl (.bw 0) .none (.some (.cst (.int 63))))) (.cons (.asg (.nm 3) (.bin .mod (.bi .int (.cons (.bin .add (.bin .add (.bin .mul (.bw 3) (.cst (.int 48271))) (.bin .mod (.bi .int (.cons (.bw 4) .nil)) (.cst (.int 2147483497)))) (.cst (.int 1272))) .nil)) (.cst (.int 2147483497)))) .nil)) (.cons (.ret (.lst 1 (.cons (.bin .mod (.bi .int (.cons (.bin .add (.bw 3) (.bin .mul (.bw 2) (.cst (.int 1013)))) .nil)) (.cst (.int 2147483497))) (.cons (.ite (.or_ (.cmp .lt (.bw 2) (.cst (.int 0))) (.cons (.cmp .ge (.bw 2) (.bin .pow (.cst (.int 10)) (.cst (.int 18)))) .nil)) (.bi .abs (.cons (.bw 2) .nil)) (.cst (.int 0))) (.cons (.cst (.int 0)) .nil))))) .nil)))
def f14 : FD := { np := 2, ns := 5, io := [], body := b14 }
abbrev s14 : Stmt := topS 19
def d14 : DE := { x := "_law_pool", st := s14, N := ["script", "lap", "own", "stirred", "cell"], ps := ["script", "lap"], F := f14, kb := [] }
def b15 : SL := (.cons (.ite (.cmp .gt (.ix (.bw 0) (.cst (.int 1))) (.cst (.int 0))) (.cons (.asgm [(.sub 0 (.cons (.cst (.int 1)) .nil)), (.nm 2)] (.bi .divmod (.cons (.ix (.bw 0) (.cst (.int 1))) (.cons (.bw 1) .nil)))) (.cons (.ret (.mv 2)) .nil)) .nil) (.cons (.set 0 (.cons (.cst (.int 2)) .nil) (.bin .add (.ix (.bw 0) (.cst (.int 2))) (.cst (.int 1)))) (.cons (.asg (.nm 3) (.bi .int (.cons (.ix (.bw 0) (.cst (.int 0))) .nil))) (.cons (.set 0 (.cons (.cst (.int 0)) .nil) (.bin .mod (.bi .int (.cons (.bin .add (.bin .add (.bin .mul (.bw 3) (.bin .add (.bin .mod (.bw 3) (.cst (.int 20011))) (.cst (.int 30011)))) (.bin .mul (.cst (.int 70001)) (.ix (.bw 0) (.cst (.int 2))))) (.cst (.int 9))) .nil)) (.cst (.int 2147483497)))) (.cons (.ret (.bin .mod (.bi .int (.cons (.bin .fdiv (.ix (.bw 0) (.cst (.int 0))) (.cst (.int 128))) .nil)) (.bw 1))) .nil)))))
def f15 : FD := { np := 2, ns := 4, io := [1], body := b15 }
abbrev s15 : Stmt := topS 20
def d15 : DE := { x := "_law_draw", st := s15, N := ["pool", "many", "figure", "held"], ps := ["pool", "many"], F := f15, kb := [] }
def b16 : SL := (.cons (.ret (.and_ (.bi (.isi "int") (.cons (.bw 0) .nil)) (.cons (.not_ (.bi (.isi "bool") (.cons (.bw 0) .nil))) .nil))) .nil)
def f16 : FD := { np := 1, ns := 1, io := [], body := b16 }
abbrev s16 : Stmt := topS 21
def d16 : DE := { x := "_law_is_whole", st := s16, N := ["told"], ps := ["told"], F := f16, kb := [] }
def b17 : SL := (.cons (.ret (.bin .add (.bin .add (.sl (.bw 0) .none (.some (.bw 1))) (.tup (.cons (.var 2) .nil))) (.sl (.bw 0) (.some (.bin .add (.bw 1) (.cst (.int 1)))) .none))) .nil)
def f17 : FD := { np := 3, ns := 3, io := [], body := b17 }
abbrev s17 : Stmt := topS 22
def d17 : DE := { x := "_law_put", st := s17, N := ["some", "at", "each"], ps := ["some", "at", "each"], F := f17, kb := [] }
def b18 : SL := (.cons (.ret (.ite (.bw 1) (.isc false (.bw 0) (.bool true)) (.isc false (.bw 0) (.bool false)))) .nil)
def f18 : FD := { np := 2, ns := 2, io := [], body := b18 }
abbrev s18 : Stmt := topS 23
def d18 : DE := { x := "_law_tells", st := s18, N := ["told", "due"], ps := ["told", "due"], F := f18, kb := [] }
def b19 : SL := (.cons (.par [2, 3] (.cons (.rngl false (.cons (.bw 1) .nil)) (.cons (.lst 1 .nil) .nil))) (.cons (.for_ (.nm 4) (.rng (.cons (.bw 1) .nil)) (.cons (.ex (.mu .append 3 (.cons (.mu .popAt 2 (.cons (.call 15 [1] (.cons (.bw 0) (.cons (.bi .len (.cons (.bw 2) .nil)) .nil)) []) .nil)) .nil))) .nil)) (.cons (.ret (.bi .tuple (.cons (.bw 3) .nil))) .nil)))
def f19 : FD := { np := 2, ns := 5, io := [1], body := b19 }
abbrev s19 : Stmt := topS 24
def d19 : DE := { x := "_law_order", st := s19, N := ["pool", "many", "left", "found", "lap"], ps := ["pool", "many"], F := f19, kb := [] }
def b20 : SL := (.cons (.asg (.nm 2) (.call 19 [1] (.cons (.bw 0) (.cons (.bw 1) .nil)) [])) (.cons (.ite (.or_ (.cmp .gt (.call 15 [1] (.cons (.bw 0) (.cons (.cst (.int 3)) .nil)) []) (.cst (.int 0))) (.cons (.cmp .eq (.bw 1) (.cst (.int 1))) .nil)) (.cons (.ret (.tup (.cons (.var 2) (.cons (.call 19 [1] (.cons (.bw 0) (.cons (.bw 1) .nil)) []) .nil)))) .nil) .nil) (.cons (.asg (.nm 3) (.bi .list (.cons (.bw 2) .nil))) (.cons (.for_ (.nm 4) (.rng (.cons (.call 15 [1] (.cons (.bw 0) (.cons (.bin .mul (.cst (.int 2)) (.bw 1)) .nil)) []) .nil)) (.cons (.asg (.nm 5) (.call 15 [1] (.cons (.bw 0) (.cons (.bin .sub (.bw 1) (.cst (.int 1))) .nil)) [])) (.cons (.asgm [(.sub 3 (.cons (.bw 5) .nil)), (.sub 3 (.cons (.bin .add (.bw 5) (.cst (.int 1))) .nil))] (.tup (.cons (.ix (.bw 3) (.bin .add (.bw 5) (.cst (.int 1)))) (.cons (.ix (.bw 3) (.bw 5)) .nil)))) .nil))) (.cons (.ret (.tup (.cons (.var 2) (.cons (.bi .tuple (.cons (.bw 3) .nil)) .nil)))) .nil)))))
def f20 : FD := { np := 2, ns := 6, io := [1], body := b20 }
abbrev s20 : Stmt := topS 25
def d20 : DE := { x := "_law_race", st := s20, N := ["pool", "many", "start", "end", "lap", "k"], ps := ["pool", "many"], F := f20, kb := [] }
def b21 : SL := (.cons (.ite (.or_ (.not_ (.bi (.isi "tuple") (.cons (.bw 0) .nil))) (.cons (.not_ (.ch2 .lt .lt (.cst (.int 0)) (.bi .len (.cons (.bw 0) .nil)) (.cst (.int 11)))) (.cons (.cmp .ne (.lc 1 [1] (.nm 1) (.seq (.bw 0)) (.cons (.not_ (.call 16 [] (.cons (.bw 1) .nil) [])) .nil) (.var 1)) (.lst 1 .nil)) .nil))) (.cons (.ret (.cst (.bool false))) .nil) .nil) (.cons (.ret (.cmp .eq (.bi .sorted (.cons (.bi .list (.cons (.bw 0) .nil)) .nil)) (.rngl false (.cons (.bi .len (.cons (.bw 0) .nil)) .nil)))) .nil))
def f21 : FD := { np := 1, ns := 2, io := [], body := b21 }
abbrev s21 : Stmt := topS 26
def d21 : DE := { x := "_law_is_order", st := s21, N := ["told", "each"], ps := ["told"], F := f21, kb := [] }
def b22 : SL := (.cons (.ret (.and_ (.bi (.isi "tuple") (.cons (.bw 0) .nil)) (.cons (.cmp .eq (.bi .len (.cons (.bw 0) .nil)) (.cst (.int 2))) (.cons (.call 21 [] (.cons (.ix (.bw 0) (.cst (.int 0))) .nil) []) (.cons (.call 21 [] (.cons (.ix (.bw 0) (.cst (.int 1))) .nil) []) (.cons (.cmp .eq (.bi .len (.cons (.ix (.bw 0) (.cst (.int 0))) .nil)) (.bi .len (.cons (.ix (.bw 0) (.cst (.int 1))) .nil))) .nil)))))) .nil)
def f22 : FD := { np := 1, ns := 1, io := [], body := b22 }
abbrev s22 : Stmt := topS 27
def d22 : DE := { x := "_law_is_race", st := s22, N := ["told"], ps := ["told"], F := f22, kb := [] }
def b23 : SL := (.cons (.par [2, 3, 4] (.cons (.call 15 [1] (.cons (.bw 0) (.cons (.bi .len (.cons (.bw 1) .nil)) .nil)) []) (.cons (.call 15 [1] (.cons (.bw 0) (.cons (.bi .len (.cons (.bw 1) .nil)) .nil)) []) (.cons (.bi .len (.cons (.bw 1) .nil)) .nil)))) (.cons (.asg (.nm 5) (.lst 1 (.cons (.var 1) (.cons (.rev (.bw 1)) (.cons (.sl (.bw 1) (.some (.cst (.int 1))) .none) (.cons (.sl (.bw 1) .none (.some (.neg (.cst (.int 1))))) (.cons (.bi .list (.cons (.bw 1) .nil)) (.cons (.tup (.cons (.var 1) .nil)) (.cons (.bin .add (.bw 1) (.tup (.cons (.var 4) .nil))) (.cons (.bin .add (.bw 1) (.sl (.bw 1) .none (.some (.cst (.int 1))))) (.cons (.bin .add (.bw 1) (.tup (.cons (.bin .add (.bw 4) (.cst (.int 1))) .nil))) (.cons (.cst .none) (.cons (.tup .nil) (.cons (.cst (.int 0)) (.cons (.cst (.bool true)) (.cons .dic0 (.cons (.cst (.str (PySem.Str.ofString "01"))) (.cons (.tup (.cons (.cst (.int 0)) .nil)) (.cons (.tup (.cons (.cst (.int 1)) .nil)) (.cons (.tup (.cons (.cst (.bool false)) .nil)) (.cons (.tup (.cons (.cst (.int 0)) (.cons (.cst (.int 0)) .nil))) .nil))))))))))))))))))))) (.cons (.for_ (.nm 6) (.seq (.lst 1 (.cons (.ix (.bw 1) (.bw 3)) (.cons (.var 4) (.cons (.neg (.cst (.int 1))) (.cons (.cst .none) (.cons (.bi .str (.cons (.ix (.bw 1) (.bw 2)) .nil)) (.cons (.tup (.cons (.ix (.bw 1) (.bw 2)) .nil)) (.cons (.bin .pow (.cst (.int 10)) (.cst (.int 29))) (.cons (.cst (.bool true)) (.cons (.cst (.bool false)) (.cons (.cmp .eq (.ix (.bw 1) (.bw 2)) (.cst (.int 1))) (.cons (.bin .add (.ix (.bw 1) (.bw 2)) (.cst (.int 1))) .nil))))))))))))) (.cons (.ex (.mu .append 5 (.cons (.call 17 [] (.cons (.bw 1) (.cons (.bw 2) (.cons (.bw 6) .nil))) []) .nil))) .nil)) (.cons (.ret (.bin .add (.bw 5) (.lst 1 (.cons (.rngl true (.cons (.cst (.int 10)) .nil)) (.cons (.rngl true (.cons (.cst (.int 11)) .nil)) (.cons (.bi .tuple (.cons (.lc 1 [7] (.nm 7) (.seq (.bw 1)) .nil (.bin .add (.bw 7) (.cst (.int 1)))) .nil)) .nil)))))) .nil))))
def f23 : FD := { np := 2, ns := 8, io := [1], body := b23 }
abbrev s23 : Stmt := topS 28
def d23 : DE := { x := "_law_near", st := s23, N := ["pool", "order", "at", "to", "many", "found", "odd", "each"], ps := ["pool", "order"], F := f23, kb := [] }
def b24 : SL := (.cons (.for_ (.nm 1) (.seq (.lst 1 (.cons (.cst (.int 1)) (.cons (.cst (.int 2)) (.cons (.cst (.int 3)) (.cons (.cst (.int 5)) (.cons (.cst (.int 8)) (.cons (.cst (.int 10)) .nil)))))))) (.cons (.asg (.nm 2) (.call 20 [1] (.cons (.bw 0) (.cons (.bw 1) .nil)) [])) (.cons (.for_ (.nm 3) (.seq (.call 23 [1] (.cons (.bw 0) (.cons (.ix (.bw 2) (.cst (.int 0))) .nil)) [])) (.cons (.ite (.or_ (.not_ (.call 18 [] (.cons (.call 12 [] (.cons (.bw 3) .nil) []) (.cons (.call 21 [] (.cons (.bw 3) .nil) []) .nil)) [])) (.cons (.not_ (.call 18 [] (.cons (.call 12 [] (.cons (.bw 3) .nil) [0]) (.cons (.call 21 [] (.cons (.bw 3) .nil) []) .nil)) [])) .nil)) (.cons (.ret (.cst (.bool false))) .nil) .nil) (.cons (.for_ (.nm 4) (.seq (.lst 1 (.cons (.tup (.cons (.var 3) (.cons (.ix (.bw 2) (.cst (.int 1))) .nil))) (.cons (.tup (.cons (.ix (.bw 2) (.cst (.int 0))) (.cons (.var 3) .nil))) (.cons (.tup (.cons (.var 3) (.cons (.var 3) .nil))) .nil))))) (.cons (.ite (.not_ (.call 18 [] (.cons (.call 13 [] (.cons (.bw 4) .nil) []) (.cons (.call 22 [] (.cons (.bw 4) .nil) []) .nil)) [])) (.cons (.ret (.cst (.bool false))) .nil) .nil) .nil)) .nil))) (.cons (.for_ (.nm 3) (.seq (.lst 1 (.cons (.var 2) (.cons (.bi .list (.cons (.bw 2) .nil)) (.cons (.bin .add (.bw 2) (.sl (.bw 2) .none (.some (.cst (.int 1))))) (.cons (.sl (.bw 2) .none (.some (.cst (.int 1)))) (.cons (.rev (.bw 2)) (.cons (.tup (.cons (.var 2) .nil)) (.cons (.ix (.bw 2) (.cst (.int 0))) (.cons (.cst .none) (.cons (.tup .nil) (.cons (.cst (.int 0)) (.cons (.cst (.bool true)) (.cons .dic0 (.cons (.cst (.str (PySem.Str.ofString "race"))) (.cons (.tup (.cons (.ix (.bw 2) (.cst (.int 0))) (.cons (.bi .list (.cons (.ix (.bw 2) (.cst (.int 1))) .nil)) .nil))) (.cons (.lst 1 (.cons (.ix (.bw 2) (.cst (.int 0))) (.cons (.ix (.bw 2) (.cst (.int 1))) .nil))) .nil))))))))))))))))) (.cons (.ite (.or_ (.not_ (.call 18 [] (.cons (.call 13 [] (.cons (.bw 3) .nil) []) (.cons (.call 22 [] (.cons (.bw 3) .nil) []) .nil)) [])) (.cons (.not_ (.call 18 [] (.cons (.call 13 [] (.cons (.bw 3) .nil) [0]) (.cons (.call 22 [] (.cons (.bw 3) .nil) []) .nil)) [])) .nil)) (.cons (.ret (.cst (.bool false))) .nil) .nil) .nil)) .nil)))) (.cons (.ret (.and_ (.isc false (.call 13 [] (.cons (.tup (.cons (.tup (.cons (.cst (.int 0)) .nil)) (.cons (.tup (.cons (.cst (.int 0)) .nil)) .nil))) .nil) []) (.bool true)) (.cons (.isc false (.call 13 [] (.cons (.tup (.cons (.tup (.cons (.cst (.int 0)) (.cons (.cst (.int 1)) .nil))) (.cons (.tup (.cons (.cst (.int 0)) .nil)) .nil))) .nil) []) (.bool false)) (.cons (.isc false (.call 12 [] (.cons (.tup .nil) .nil) []) (.bool false)) (.cons (.isc false (.call 12 [] (.cons (.tup (.cons (.cst (.int 0)) (.cons (.cst (.bool true)) .nil))) .nil) []) (.bool false)) .nil))))) .nil))
def f24 : FD := { np := 1, ns := 5, io := [1], body := b24 }
abbrev s24 : Stmt := topS 29
def d24 : DE := { x := "_law_right", st := s24, N := ["pool", "many", "race", "value", "pair"], ps := ["pool"], F := f24, kb := [] }
def b25 : SL := (.cons (.for_ (.nm 1) (.rng (.cons (.bi .max2 (.cons (.cst (.int 2)) (.cons (.bi .min2 (.cons (.bi .len (.cons (.bw 0) .nil)) (.cons (.cst (.int 3)) .nil))) .nil))) .nil)) (.cons (.ite (.not_ (.call 24 [1] (.cons (.call 14 [] (.cons (.bw 0) (.cons (.bw 1) .nil)) []) .nil) [])) (.cons (.ret (.cst (.bool false))) .nil) .nil) .nil)) (.cons (.ret (.cst (.bool true))) .nil))
def f25 : FD := { np := 1, ns := 2, io := [], body := b25 }
abbrev s25 : Stmt := topS 30
def d25 : DE := { x := "law", st := s25, N := ["script", "lap"], ps := ["script"], F := f25, kb := [] }
def tb : TB := { fs := [d0, d1, d2, d3, d4, d5, d6, d7, d8, d9, d10, d11, d12, d13, d14, d15, d16, d17, d18, d19, d20, d21, d22, d23, d24, d25], gs := [("MOST_RUNNERS", (.int 10))], ls := [{ x := "each", fr := ["many"], q := (.call 8 [] (.cons (.bw 0) (.cons (.bw 1) .nil)) []) }] }
abbrev PG : Prg := prgOf tb
abbrev WFc : Nat := 1
abbrev i_is_whole : Nat := 0
theorem kp_is_whole {n : Nat} {a0 : D} {Q : D → Nat → List D → Prop} (q : SsP (orc PG WFc n) WFc b0 [some (a0, 0)] (fun e => FlR [] Q .none 0 e) (fun d k e => FlR [] Q d k e) NoX) : KP ((orc PG WFc (n + 1)).fn 0 [a0]) Q NoC := by
  rw [orc_fn (F := f0) rfl]
  exact KP.runB rfl rfl rfl rfl q
theorem go_is_whole {n : Nat} {a0 d : D} {k : Nat} (q : SsP (orc PG WFc n) WFc b0 [some (a0, 0)] (fun e => False) (fun d' k' e => d' = d ∧ k' = k) NoX) : (orc PG WFc (n + 1)).fn 0 [a0] = .ret d k [] := by
  rw [orc_fn (F := f0) rfl]
  exact run_eqB rfl rfl rfl rfl q
abbrev i_is_between : Nat := 1
theorem kp_is_between {n : Nat} {a0 a1 a2 : D} {Q : D → Nat → List D → Prop} (q : SsP (orc PG WFc n) WFc b1 [some (a0, 0), some (a1, 0), some (a2, 0)] (fun e => FlR [] Q .none 0 e) (fun d k e => FlR [] Q d k e) NoX) : KP ((orc PG WFc (n + 1)).fn 1 [a0, a1, a2]) Q NoC := by
  rw [orc_fn (F := f1) rfl]
  exact KP.runB rfl rfl rfl rfl q
theorem go_is_between {n : Nat} {a0 a1 a2 d : D} {k : Nat} (q : SsP (orc PG WFc n) WFc b1 [some (a0, 0), some (a1, 0), some (a2, 0)] (fun e => False) (fun d' k' e => d' = d ∧ k' = k) NoX) : (orc PG WFc (n + 1)).fn 1 [a0, a1, a2] = .ret d k [] := by
  rw [orc_fn (F := f1) rfl]
  exact run_eqB rfl rfl rfl rfl q
abbrev i_is_up_to : Nat := 2
theorem kp_is_up_to {n : Nat} {a0 a1 : D} {Q : D → Nat → List D → Prop} (q : SsP (orc PG WFc n) WFc b2 [some (a0, 0), some (a1, 0)] (fun e => FlR [] Q .none 0 e) (fun d k e => FlR [] Q d k e) NoX) : KP ((orc PG WFc (n + 1)).fn 2 [a0, a1]) Q NoC := by
  rw [orc_fn (F := f2) rfl]
  exact KP.runB rfl rfl rfl rfl q
theorem go_is_up_to {n : Nat} {a0 a1 d : D} {k : Nat} (q : SsP (orc PG WFc n) WFc b2 [some (a0, 0), some (a1, 0)] (fun e => False) (fun d' k' e => d' = d ∧ k' = k) NoX) : (orc PG WFc (n + 1)).fn 2 [a0, a1] = .ret d k [] := by
  rw [orc_fn (F := f2) rfl]
  exact run_eqB rfl rfl rfl rfl q
abbrev i_is_tuple_up_to : Nat := 3
theorem kp_is_tuple_up_to {n : Nat} {a0 a1 a2 : D} {Q : D → Nat → List D → Prop} (q : SsP (orc PG WFc n) WFc b3 [some (a0, 0), some (a1, 0), some (a2, 0)] (fun e => FlR [] Q .none 0 e) (fun d k e => FlR [] Q d k e) NoX) : KP ((orc PG WFc (n + 1)).fn 3 [a0, a1, a2]) Q NoC := by
  rw [orc_fn (F := f3) rfl]
  exact KP.runB rfl rfl rfl rfl q
theorem go_is_tuple_up_to {n : Nat} {a0 a1 a2 d : D} {k : Nat} (q : SsP (orc PG WFc n) WFc b3 [some (a0, 0), some (a1, 0), some (a2, 0)] (fun e => False) (fun d' k' e => d' = d ∧ k' = k) NoX) : (orc PG WFc (n + 1)).fn 3 [a0, a1, a2] = .ret d k [] := by
  rw [orc_fn (F := f3) rfl]
  exact run_eqB rfl rfl rfl rfl q
abbrev i_is_tuple_of : Nat := 4
theorem kp_is_tuple_of {n : Nat} {a0 a1 : D} {Q : D → Nat → List D → Prop} (q : SsP (orc PG WFc n) WFc b4 [some (a0, 0), some (a1, 0)] (fun e => FlR [] Q .none 0 e) (fun d k e => FlR [] Q d k e) NoX) : KP ((orc PG WFc (n + 1)).fn 4 [a0, a1]) Q NoC := by
  rw [orc_fn (F := f4) rfl]
  exact KP.runB rfl rfl rfl rfl q
theorem go_is_tuple_of {n : Nat} {a0 a1 d : D} {k : Nat} (q : SsP (orc PG WFc n) WFc b4 [some (a0, 0), some (a1, 0)] (fun e => False) (fun d' k' e => d' = d ∧ k' = k) NoX) : (orc PG WFc (n + 1)).fn 4 [a0, a1] = .ret d k [] := by
  rw [orc_fn (F := f4) rfl]
  exact run_eqB rfl rfl rfl rfl q
abbrev i_is_pair : Nat := 5
theorem kp_is_pair {n : Nat} {a0 : D} {Q : D → Nat → List D → Prop} (q : SsP (orc PG WFc n) WFc b5 [some (a0, 0)] (fun e => FlR [] Q .none 0 e) (fun d k e => FlR [] Q d k e) NoX) : KP ((orc PG WFc (n + 1)).fn 5 [a0]) Q NoC := by
  rw [orc_fn (F := f5) rfl]
  exact KP.runB rfl rfl rfl rfl q
theorem go_is_pair {n : Nat} {a0 d : D} {k : Nat} (q : SsP (orc PG WFc n) WFc b5 [some (a0, 0)] (fun e => False) (fun d' k' e => d' = d ∧ k' = k) NoX) : (orc PG WFc (n + 1)).fn 5 [a0] = .ret d k [] := by
  rw [orc_fn (F := f5) rfl]
  exact run_eqB rfl rfl rfl rfl q
abbrev i_are_all : Nat := 6
theorem kp_are_all {n : Nat} {a0 a1 a2 : D} {Q : D → Nat → List D → Prop} (q : SsP (orc PG WFc n) WFc b6 [some (a0, 0), some (a1, 0), some (a2, 0), none] (fun e => FlR [] Q .none 0 e) (fun d k e => FlR [] Q d k e) NoX) : KP ((orc PG WFc (n + 1)).fn 6 [a0, a1, a2]) Q NoC := by
  rw [orc_fn (F := f6) rfl]
  exact KP.runB rfl rfl rfl rfl q
theorem go_are_all {n : Nat} {a0 a1 a2 d : D} {k : Nat} (q : SsP (orc PG WFc n) WFc b6 [some (a0, 0), some (a1, 0), some (a2, 0), none] (fun e => False) (fun d' k' e => d' = d ∧ k' = k) NoX) : (orc PG WFc (n + 1)).fn 6 [a0, a1, a2] = .ret d k [] := by
  rw [orc_fn (F := f6) rfl]
  exact run_eqB rfl rfl rfl rfl q
abbrev i_are_unlike : Nat := 7
theorem kp_are_unlike {n : Nat} {a0 : D} {Q : D → Nat → List D → Prop} (q : SsP (orc PG WFc n) WFc b7 [some (a0, 0), none, none] (fun e => FlR [] Q .none 0 e) (fun d k e => FlR [] Q d k e) NoX) : KP ((orc PG WFc (n + 1)).fn 7 [a0]) Q NoC := by
  rw [orc_fn (F := f7) rfl]
  exact KP.runB rfl rfl rfl rfl q
theorem go_are_unlike {n : Nat} {a0 d : D} {k : Nat} (q : SsP (orc PG WFc n) WFc b7 [some (a0, 0), none, none] (fun e => False) (fun d' k' e => d' = d ∧ k' = k) NoX) : (orc PG WFc (n + 1)).fn 7 [a0] = .ret d k [] := by
  rw [orc_fn (F := f7) rfl]
  exact run_eqB rfl rfl rfl rfl q
abbrev i_is_runner_of : Nat := 8
theorem kp_is_runner_of {n : Nat} {a0 a1 : D} {Q : D → Nat → List D → Prop} (q : SsP (orc PG WFc n) WFc b8 [some (a0, 0), some (a1, 0)] (fun e => FlR [] Q .none 0 e) (fun d k e => FlR [] Q d k e) NoX) : KP ((orc PG WFc (n + 1)).fn 8 [a0, a1]) Q NoC := by
  rw [orc_fn (F := f8) rfl]
  exact KP.runB rfl rfl rfl rfl q
theorem go_is_runner_of {n : Nat} {a0 a1 d : D} {k : Nat} (q : SsP (orc PG WFc n) WFc b8 [some (a0, 0), some (a1, 0)] (fun e => False) (fun d' k' e => d' = d ∧ k' = k) NoX) : (orc PG WFc (n + 1)).fn 8 [a0, a1] = .ret d k [] := by
  rw [orc_fn (F := f8) rfl]
  exact run_eqB rfl rfl rfl rfl q
abbrev i_is_order_for : Nat := 9
theorem kp_is_order_for {n : Nat} {a0 a1 : D} {Q : D → Nat → List D → Prop} (q : SsP (orc PG WFc n) WFc b9 [some (a0, 0), some (a1, 0), none] (fun e => FlR [] Q .none 0 e) (fun d k e => FlR [] Q d k e) NoX) : KP ((orc PG WFc (n + 1)).fn 9 [a0, a1]) Q NoC := by
  rw [orc_fn (F := f9) rfl]
  exact KP.runB rfl rfl rfl rfl q
theorem go_is_order_for {n : Nat} {a0 a1 d : D} {k : Nat} (q : SsP (orc PG WFc n) WFc b9 [some (a0, 0), some (a1, 0), none] (fun e => False) (fun d' k' e => d' = d ∧ k' = k) NoX) : (orc PG WFc (n + 1)).fn 9 [a0, a1] = .ret d k [] := by
  rw [orc_fn (F := f9) rfl]
  exact run_eqB rfl rfl rfl rfl q
abbrev i_is_order_of : Nat := 10
theorem kp_is_order_of {n : Nat} {a0 : D} {Q : D → Nat → List D → Prop} (q : SsP (orc PG WFc n) WFc b10 [some (a0, 0)] (fun e => FlR [] Q .none 0 e) (fun d k e => FlR [] Q d k e) NoX) : KP ((orc PG WFc (n + 1)).fn 10 [a0]) Q NoC := by
  rw [orc_fn (F := f10) rfl]
  exact KP.runB rfl rfl rfl rfl q
theorem go_is_order_of {n : Nat} {a0 d : D} {k : Nat} (q : SsP (orc PG WFc n) WFc b10 [some (a0, 0)] (fun e => False) (fun d' k' e => d' = d ∧ k' = k) NoX) : (orc PG WFc (n + 1)).fn 10 [a0] = .ret d k [] := by
  rw [orc_fn (F := f10) rfl]
  exact run_eqB rfl rfl rfl rfl q
abbrev i_is_race_of : Nat := 11
theorem kp_is_race_of {n : Nat} {a0 : D} {Q : D → Nat → List D → Prop} (q : SsP (orc PG WFc n) WFc b11 [some (a0, 0)] (fun e => FlR [] Q .none 0 e) (fun d k e => FlR [] Q d k e) NoX) : KP ((orc PG WFc (n + 1)).fn 11 [a0]) Q NoC := by
  rw [orc_fn (F := f11) rfl]
  exact KP.runB rfl rfl rfl rfl q
theorem go_is_race_of {n : Nat} {a0 d : D} {k : Nat} (q : SsP (orc PG WFc n) WFc b11 [some (a0, 0)] (fun e => False) (fun d' k' e => d' = d ∧ k' = k) NoX) : (orc PG WFc (n + 1)).fn 11 [a0] = .ret d k [] := by
  rw [orc_fn (F := f11) rfl]
  exact run_eqB rfl rfl rfl rfl q
abbrev i_is_order : Nat := 12
theorem kp_is_order {n : Nat} {a0 : D} {Q : D → Nat → List D → Prop} (q : SsP (orc PG WFc n) WFc b12 [some (a0, 0)] (fun e => FlR [] Q .none 0 e) (fun d k e => FlR [] Q d k e) NoX) : KP ((orc PG WFc (n + 1)).fn 12 [a0]) Q NoC := by
  rw [orc_fn (F := f12) rfl]
  exact KP.runB rfl rfl rfl rfl q
theorem go_is_order {n : Nat} {a0 d : D} {k : Nat} (q : SsP (orc PG WFc n) WFc b12 [some (a0, 0)] (fun e => False) (fun d' k' e => d' = d ∧ k' = k) NoX) : (orc PG WFc (n + 1)).fn 12 [a0] = .ret d k [] := by
  rw [orc_fn (F := f12) rfl]
  exact run_eqB rfl rfl rfl rfl q
abbrev i_is_race : Nat := 13
theorem kp_is_race {n : Nat} {a0 : D} {Q : D → Nat → List D → Prop} (q : SsP (orc PG WFc n) WFc b13 [some (a0, 0)] (fun e => FlR [] Q .none 0 e) (fun d k e => FlR [] Q d k e) NoX) : KP ((orc PG WFc (n + 1)).fn 13 [a0]) Q NoC := by
  rw [orc_fn (F := f13) rfl]
  exact KP.runB rfl rfl rfl rfl q
theorem go_is_race {n : Nat} {a0 d : D} {k : Nat} (q : SsP (orc PG WFc n) WFc b13 [some (a0, 0)] (fun e => False) (fun d' k' e => d' = d ∧ k' = k) NoX) : (orc PG WFc (n + 1)).fn 13 [a0] = .ret d k [] := by
  rw [orc_fn (F := f13) rfl]
  exact run_eqB rfl rfl rfl rfl q
abbrev i__law_pool : Nat := 14
theorem kp__law_pool {n : Nat} {a0 a1 : D} {Q : D → Nat → List D → Prop} (q : SsP (orc PG WFc n) WFc b14 [some (a0, 0), some (a1, 0), none, none, none] (fun e => FlR [] Q .none 0 e) (fun d k e => FlR [] Q d k e) NoX) : KP ((orc PG WFc (n + 1)).fn 14 [a0, a1]) Q NoC := by
  rw [orc_fn (F := f14) rfl]
  exact KP.runB rfl rfl rfl rfl q
theorem go__law_pool {n : Nat} {a0 a1 d : D} {k : Nat} (q : SsP (orc PG WFc n) WFc b14 [some (a0, 0), some (a1, 0), none, none, none] (fun e => False) (fun d' k' e => d' = d ∧ k' = k) NoX) : (orc PG WFc (n + 1)).fn 14 [a0, a1] = .ret d k [] := by
  rw [orc_fn (F := f14) rfl]
  exact run_eqB rfl rfl rfl rfl q
abbrev i__law_draw : Nat := 15
theorem kp__law_draw {n : Nat} {a0 a1 : D} {Q : D → Nat → List D → Prop} (q : SsP (orc PG WFc n) WFc b15 [some (a0, 1), some (a1, 0), none, none] (fun e => FlR [1] Q .none 0 e) (fun d k e => FlR [1] Q d k e) NoX) : KP ((orc PG WFc (n + 1)).fn 15 [a0, a1]) Q NoC := by
  rw [orc_fn (F := f15) rfl]
  exact KP.runB rfl rfl rfl rfl q
abbrev i__law_is_whole : Nat := 16
theorem kp__law_is_whole {n : Nat} {a0 : D} {Q : D → Nat → List D → Prop} (q : SsP (orc PG WFc n) WFc b16 [some (a0, 0)] (fun e => FlR [] Q .none 0 e) (fun d k e => FlR [] Q d k e) NoX) : KP ((orc PG WFc (n + 1)).fn 16 [a0]) Q NoC := by
  rw [orc_fn (F := f16) rfl]
  exact KP.runB rfl rfl rfl rfl q
theorem go__law_is_whole {n : Nat} {a0 d : D} {k : Nat} (q : SsP (orc PG WFc n) WFc b16 [some (a0, 0)] (fun e => False) (fun d' k' e => d' = d ∧ k' = k) NoX) : (orc PG WFc (n + 1)).fn 16 [a0] = .ret d k [] := by
  rw [orc_fn (F := f16) rfl]
  exact run_eqB rfl rfl rfl rfl q
abbrev i__law_put : Nat := 17
theorem kp__law_put {n : Nat} {a0 a1 a2 : D} {Q : D → Nat → List D → Prop} (q : SsP (orc PG WFc n) WFc b17 [some (a0, 0), some (a1, 0), some (a2, 0)] (fun e => FlR [] Q .none 0 e) (fun d k e => FlR [] Q d k e) NoX) : KP ((orc PG WFc (n + 1)).fn 17 [a0, a1, a2]) Q NoC := by
  rw [orc_fn (F := f17) rfl]
  exact KP.runB rfl rfl rfl rfl q
theorem go__law_put {n : Nat} {a0 a1 a2 d : D} {k : Nat} (q : SsP (orc PG WFc n) WFc b17 [some (a0, 0), some (a1, 0), some (a2, 0)] (fun e => False) (fun d' k' e => d' = d ∧ k' = k) NoX) : (orc PG WFc (n + 1)).fn 17 [a0, a1, a2] = .ret d k [] := by
  rw [orc_fn (F := f17) rfl]
  exact run_eqB rfl rfl rfl rfl q
abbrev i__law_tells : Nat := 18
theorem kp__law_tells {n : Nat} {a0 a1 : D} {Q : D → Nat → List D → Prop} (q : SsP (orc PG WFc n) WFc b18 [some (a0, 0), some (a1, 0)] (fun e => FlR [] Q .none 0 e) (fun d k e => FlR [] Q d k e) NoX) : KP ((orc PG WFc (n + 1)).fn 18 [a0, a1]) Q NoC := by
  rw [orc_fn (F := f18) rfl]
  exact KP.runB rfl rfl rfl rfl q
theorem go__law_tells {n : Nat} {a0 a1 d : D} {k : Nat} (q : SsP (orc PG WFc n) WFc b18 [some (a0, 0), some (a1, 0)] (fun e => False) (fun d' k' e => d' = d ∧ k' = k) NoX) : (orc PG WFc (n + 1)).fn 18 [a0, a1] = .ret d k [] := by
  rw [orc_fn (F := f18) rfl]
  exact run_eqB rfl rfl rfl rfl q
abbrev i__law_order : Nat := 19
theorem kp__law_order {n : Nat} {a0 a1 : D} {Q : D → Nat → List D → Prop} (q : SsP (orc PG WFc n) WFc b19 [some (a0, 1), some (a1, 0), none, none, none] (fun e => FlR [1] Q .none 0 e) (fun d k e => FlR [1] Q d k e) NoX) : KP ((orc PG WFc (n + 1)).fn 19 [a0, a1]) Q NoC := by
  rw [orc_fn (F := f19) rfl]
  exact KP.runB rfl rfl rfl rfl q
abbrev i__law_race : Nat := 20
theorem kp__law_race {n : Nat} {a0 a1 : D} {Q : D → Nat → List D → Prop} (q : SsP (orc PG WFc n) WFc b20 [some (a0, 1), some (a1, 0), none, none, none, none] (fun e => FlR [1] Q .none 0 e) (fun d k e => FlR [1] Q d k e) NoX) : KP ((orc PG WFc (n + 1)).fn 20 [a0, a1]) Q NoC := by
  rw [orc_fn (F := f20) rfl]
  exact KP.runB rfl rfl rfl rfl q
abbrev i__law_is_order : Nat := 21
theorem kp__law_is_order {n : Nat} {a0 : D} {Q : D → Nat → List D → Prop} (q : SsP (orc PG WFc n) WFc b21 [some (a0, 0), none] (fun e => FlR [] Q .none 0 e) (fun d k e => FlR [] Q d k e) NoX) : KP ((orc PG WFc (n + 1)).fn 21 [a0]) Q NoC := by
  rw [orc_fn (F := f21) rfl]
  exact KP.runB rfl rfl rfl rfl q
theorem go__law_is_order {n : Nat} {a0 d : D} {k : Nat} (q : SsP (orc PG WFc n) WFc b21 [some (a0, 0), none] (fun e => False) (fun d' k' e => d' = d ∧ k' = k) NoX) : (orc PG WFc (n + 1)).fn 21 [a0] = .ret d k [] := by
  rw [orc_fn (F := f21) rfl]
  exact run_eqB rfl rfl rfl rfl q
abbrev i__law_is_race : Nat := 22
theorem kp__law_is_race {n : Nat} {a0 : D} {Q : D → Nat → List D → Prop} (q : SsP (orc PG WFc n) WFc b22 [some (a0, 0)] (fun e => FlR [] Q .none 0 e) (fun d k e => FlR [] Q d k e) NoX) : KP ((orc PG WFc (n + 1)).fn 22 [a0]) Q NoC := by
  rw [orc_fn (F := f22) rfl]
  exact KP.runB rfl rfl rfl rfl q
theorem go__law_is_race {n : Nat} {a0 d : D} {k : Nat} (q : SsP (orc PG WFc n) WFc b22 [some (a0, 0)] (fun e => False) (fun d' k' e => d' = d ∧ k' = k) NoX) : (orc PG WFc (n + 1)).fn 22 [a0] = .ret d k [] := by
  rw [orc_fn (F := f22) rfl]
  exact run_eqB rfl rfl rfl rfl q
abbrev i__law_near : Nat := 23
theorem kp__law_near {n : Nat} {a0 a1 : D} {Q : D → Nat → List D → Prop} (q : SsP (orc PG WFc n) WFc b23 [some (a0, 1), some (a1, 0), none, none, none, none, none, none] (fun e => FlR [1] Q .none 0 e) (fun d k e => FlR [1] Q d k e) NoX) : KP ((orc PG WFc (n + 1)).fn 23 [a0, a1]) Q NoC := by
  rw [orc_fn (F := f23) rfl]
  exact KP.runB rfl rfl rfl rfl q
abbrev i__law_right : Nat := 24
theorem kp__law_right {n : Nat} {a0 : D} {Q : D → Nat → List D → Prop} (q : SsP (orc PG WFc n) WFc b24 [some (a0, 1), none, none, none, none] (fun e => FlR [1] Q .none 0 e) (fun d k e => FlR [1] Q d k e) NoX) : KP ((orc PG WFc (n + 1)).fn 24 [a0]) Q NoC := by
  rw [orc_fn (F := f24) rfl]
  exact KP.runB rfl rfl rfl rfl q
abbrev i_law : Nat := 25
theorem kp_law {n : Nat} {a0 : D} {Q : D → Nat → List D → Prop} (q : SsP (orc PG WFc n) WFc b25 [some (a0, 0), none] (fun e => FlR [] Q .none 0 e) (fun d k e => FlR [] Q d k e) NoX) : KP ((orc PG WFc (n + 1)).fn 25 [a0]) Q NoC := by
  rw [orc_fn (F := f25) rfl]
  exact KP.runB rfl rfl rfl rfl q
theorem go_law {n : Nat} {a0 d : D} {k : Nat} (q : SsP (orc PG WFc n) WFc b25 [some (a0, 0), none] (fun e => False) (fun d' k' e => d' = d ∧ k' = k) NoX) : (orc PG WFc (n + 1)).fn 25 [a0] = .ret d k [] := by
  rw [orc_fn (F := f25) rfl]
  exact run_eqB rfl rfl rfl rfl q
end QQ
namespace QQ
open PySem L2

/-! ### k06: what each def gives -/

def wholeB : D → Bool
  | .int _ => true
  | _ => false
def inB (v : D) (lo hi : Int) : Bool := match v with
  | .int i => decide (lo ≤ i) && decide (i ≤ hi)
  | _ => false
def tupB (v : D) (lo hi : Int) : Bool := match v with
  | .tuple xs => decide (lo ≤ xs.length) && decide ((xs.length : Int) ≤ hi)
  | _ => false
theorem p0 (n : Nat) (v : D) (h : nl v = true) : (orc PG 1 (n + 1)).fn 0 [v] = .ret (.bool (wholeB v)) 0 [] := by
  rw [orc_fn rfl]
  cases v with
  | dict kvs => cases nl_dict h; rfl
  | _ => rfl
theorem p1 (n : Nat) (v : D) (lo hi : Int) (h : nl v = true) : (orc PG 1 (n + 2)).fn 1 [v, .int lo, .int hi] = .ret (.bool (inB v lo hi)) 0 [] := by
  rw [orc_fn rfl]
  refine run_ret (e1 := [some (v, 0), some (.int lo, 0), some (.int hi, 0)]) rfl ?_
  have c := call_own (bl := []) (co := (orc PG 1 (n + 1)).fn 0) (rs := [(v, .own 0)]) (en := [some (v, 0), some (.int lo, 0), some (.int hi, 0)]) rfl (p0 n v h)
  simp [startE, argE, ev, evL, rdBw, pend, muL, ioBl, c]
  cases v with
  | int i =>
    simp [wholeB, evAnd, ev, rdBw, pend, muE, cmpD, ordF, inB, okB]
    by_cases h1 : i < lo
    · have h2 : ¬ lo ≤ i := by omega
      simp [h1, h2]
    · have h2 : lo ≤ i := by omega
      simp [h1, h2]
      by_cases h3 : hi < i
      · have h4 : ¬ i ≤ hi := by omega
        simp [h3, h4]
      · have h4 : i ≤ hi := by omega
        simp [h3, h4]
  | _ => simp [wholeB, inB]
theorem p2 (n : Nat) (v : D) (hi : Int) (h : nl v = true) : (orc PG 1 (n + 3)).fn 2 [v, .int hi] = .ret (.bool (inB v 0 hi)) 0 [] := by
  rw [orc_fn rfl]
  refine run_ret (e1 := [some (v, 0), some (.int hi, 0)]) rfl ?_
  have c := call_own (bl := []) (co := (orc PG 1 (n + 2)).fn 1) (rs := [(v, .own 0), (.int 0, .own 0), (.int hi, .own 0)]) (en := [some (v, 0), some (.int hi, 0)]) rfl (p1 n v 0 hi h)
  simp [startE, argE, ev, evL, rdBw, pend, muL, ioBl, c]
theorem p3 (n : Nat) (v : D) (lo hi : Int) (h : nl v = true) : (orc PG 1 (n + 1)).fn 3 [v, .int lo, .int hi] = .ret (.bool (tupB v lo hi)) 0 [] := by
  rw [orc_fn rfl]
  refine run_ret (e1 := [some (v, 0), some (.int lo, 0), some (.int hi, 0)]) rfl ?_
  cases v with
  | tuple xs =>
    simp [startE, argE, ev, evL, rdBw, pend, muL, ioBl, itemsOk, biD, isiD, isTy, tyName, dsOf, flagOf, evAnd, muE, cmpD, ordF, lenD, okB, tupB]
    by_cases h1 : (xs.length : Int) < lo
    · have h2 : ¬ lo ≤ xs.length := by omega
      simp [h1, h2]
    · have h2 : lo ≤ xs.length := by omega
      simp [h1, h2]
      by_cases h3 : hi < xs.length
      · have h4 : ¬ (xs.length : Int) ≤ hi := by omega
        simp [h3, h4]
      · have h4 : (xs.length : Int) ≤ hi := by omega
        simp [h3, h4]
  | dict kvs =>
    cases nl_dict h
    simp [startE, argE, ev, evL, rdBw, pend, muL, ioBl, itemsOk, biD, isiD, isTy, tyName, dsOf, flagOf, evAnd, muE, tupB]
  | _ => simp [startE, argE, ev, evL, rdBw, pend, muL, ioBl, itemsOk, biD, isiD, isTy, tyName, dsOf, flagOf, evAnd, muE, tupB]
theorem p4 (n : Nat) (v : D) (m : Int) (h : nl v = true) : (orc PG 1 (n + 2)).fn 4 [v, .int m] = .ret (.bool (tupB v m m)) 0 [] := by
  rw [orc_fn rfl]
  refine run_ret (e1 := [some (v, 0), some (.int m, 0)]) rfl ?_
  have c := call_own (bl := []) (co := (orc PG 1 (n + 1)).fn 3) (rs := [(v, .own 0), (.int m, .own 0), (.int m, .own 0)]) (en := [some (v, 0), some (.int m, 0)]) rfl (p3 n v m m h)
  simp [startE, argE, ev, evL, rdBw, pend, muL, ioBl, c]
theorem p5 (n : Nat) (v : D) (h : nl v = true) : (orc PG 1 (n + 3)).fn 5 [v] = .ret (.bool (tupB v 2 2)) 0 [] := by
  rw [orc_fn rfl]
  refine run_ret (e1 := [some (v, 0)]) rfl ?_
  have c := call_own (bl := []) (co := (orc PG 1 (n + 2)).fn 4) (rs := [(v, .own 0), (.int 2, .own 0)]) (en := [some (v, 0)]) rfl (p4 n v 2 h)
  simp [startE, argE, ev, evL, rdBw, pend, muL, ioBl, c]
theorem p8 (n : Nat) (v : D) (m : Int) (h : nl v = true) : (orc PG 1 (n + 4)).fn 8 [v, .int m] = .ret (.bool (inB v 0 (m - 1))) 0 [] := by
  rw [orc_fn rfl]
  refine run_ret (e1 := [some (v, 0), some (.int m, 0)]) rfl ?_
  have c := call_own (bl := []) (co := (orc PG 1 (n + 3)).fn 2) (rs := [(v, .own 0), (.int (m - 1), .own 0)]) (en := [some (v, 0), some (.int m, 0)]) rfl (p2 n v (m - 1) h)
  simp [startE, argE, ev, evL, rdBw, pend, muL, ioBl, muE, itemsOk, binD, flagOf, c]
theorem pl (n : Nat) (v : D) (m : Int) (h : nl v = true) : (orc PG 1 (n + 5)).lam 0 [.int m] [v] = .ret (.bool (inB v 0 (m - 1))) 0 [] := by
  have c := call_own (bl := []) (co := (orc PG 1 (n + 4)).fn 8) (rs := [(v, .own 0), (.int m, .own 0)]) (en := [some (v, 0), some (.int m, 0)]) rfl (p8 n v m h)
  have r := run_ret (C := orc PG 1 (n + 4)) (W := 1) (np := 2) (ns := 2) (e := .call 8 [] (.cons (.bw 0) (.cons (.bw 1) .nil)) []) (ds := [v, .int m]) (e1 := [some (v, 0), some (.int m, 0)]) (d := .bool (inB v 0 (m - 1))) (k := 0) rfl (by
    simp [startE, argE, ev, evL, rdBw, pend, muL, ioBl, c])
  show (if nls [v] then lamOut (runD (orc PG 1 (n + 4)) 1 (LE.fd { x := "each", fr := ["many"], q := (.call 8 [] (.cons (.bw 0) (.cons (.bw 1) .nil)) []) }) ([v] ++ [.int m])) else .stuck) = _
  have hn : nls [v] = true := by simp [nls, h]
  rw [if_pos hn]
  have r' : runD (orc PG 1 (n + 4)) 1 (LE.fd { x := "each", fr := ["many"], q := (.call 8 [] (.cons (.bw 0) (.cons (.bw 1) .nil)) []) }) ([v] ++ [.int m]) = .ret (.bool (inB v 0 (m - 1))) 0 [] := r
  rw [r']
  rfl
def allIn (v : D) (m m' : Int) : Bool := match v with
  | .tuple xs => decide ((xs.length : Int) = m) && xs.all fun x => inB x 0 (m' - 1)
  | _ => false
theorem p6 (n : Nat) (v : D) (m m' : Int) (h : nl v = true) (hl : m ≤ LIM) : (orc PG 1 (n + 6)).fn 6 [v, .int m, loD 0 [.int m']] = .ret (.bool (allIn v m m')) 0 [] := by
  rw [orc_fn rfl]
  refine run_ret (e1 := [some (v, 0), some (.int m, 0), some (loD 0 [.int m'], 0), none]) rfl ?_
  show ev (orc PG 1 (n + 5)) (.and_ (.call 4 [] (.cons (.bw 0) (.cons (.bw 1) .nil)) []) (.cons (.bi .all (.cons (.lc 1 [3] (.nm 3) (.seq (.bw 0)) .nil (.calv 2 (.cons (.bw 3) .nil))) .nil)) .nil)) [some (v, 0), some (.int m, 0), some (loD 0 [.int m'], 0), none] = _
  have c := call_own (bl := []) (co := (orc PG 1 (n + 5)).fn 4) (rs := [(v, .own 0), (.int m, .own 0)]) (en := [some (v, 0), some (.int m, 0), some (loD 0 [.int m'], 0), none]) rfl (p4 (n + 3) v m h)
  have e : ev (orc PG 1 (n + 5)) (.call 4 [] (.cons (.bw 0) (.cons (.bw 1) .nil)) []) [some (v, 0), some (.int m, 0), some (loD 0 [.int m'], 0), none] = .ok (.bool (tupB v m m), .own 0) [some (v, 0), some (.int m, 0), some (loD 0 [.int m'], 0), none] := by
    simp [ev, evL, rdBw, pend, muL, ioBl, c]
  rw [ev, e]
  cases v with
  | tuple xs =>
    by_cases hm : (xs.length : Int) = m
    · have t : tupB (.tuple xs) m m = true := by simp [tupB, hm]
      have l := ev_lc (C := orc PG 1 (n + 5)) (k := 1) (own := [3]) (p := .nm 3) (it := .seq (.bw 0)) (ifs := .nil) (elt := .calv 2 (.cons (.bw 3) .nil)) (en := [some (.tuple xs, 0), some (.int m, 0), some (loD 0 [.int m'], 0), none]) (e1 := [some (.tuple xs, 0), some (.int m, 0), some (loD 0 [.int m'], 0), none]) (e0 := [some (.tuple xs, 0), some (.int m, 0), some (loD 0 [.int m'], 0), none]) (xs := xs) (rts := []) (fun x => some (.bool (inB x 0 (m' - 1)))) (by simp [evI, ev, rdBw, itemsD, itemsOk, rootsOf]) rfl rfl (by omega) (fun x hx => by
        refine ⟨[some (.tuple xs, 0), some (.int m, 0), some (loD 0 [.int m'], 0), some (x, 0)], ?_, rfl⟩
        have c2 := call_own (bl := []) (co := (orc PG 1 (n + 5)).lam 0 [.int m']) (rs := [(x, .own 0)]) (en := [some (.tuple xs, 0), some (.int m, 0), some (loD 0 [.int m'], 0), some (x, 0)]) rfl (pl n x m' (nls_all h x hx))
        simp only [loD] at c2 ⊢
        simp [lcT, bindP, evAnd1, ev, evL, rdBw, pend, muL, muE]
        erw [c2]
        simp [keepItem, keepK, lf])
      rw [fm_some] at l
      simp only [t, Out.bind_ok]
      rw [evAnd, ev, evL, l]
      simp [evL, pend, itemsOk, biD, dsOf, allD, flagOf, bools_map, allIn, hm, List.all_map, Function.comp_def]
    · have t : tupB (.tuple xs) m m = false := by simp [tupB]; omega
      simp [t, hm, allIn]
  | dict kvs => simp [tupB, allIn]
  | _ => simp [tupB, allIn]
theorem fm_congr {α β : Type} {f g : α → Option β} : ∀ {l : List α}, (∀ x ∈ l, f x = g x) → l.filterMap f = l.filterMap g
  | [], _ => rfl
  | x :: l, h => by
    rw [List.filterMap_cons, List.filterMap_cons, h x (List.mem_cons_self ..), fm_congr fun z hz => h z (List.mem_cons_of_mem _ hz)]
theorem enumD_ints (ns : List Int) : enumD (ns.map .int) = (List.range ns.length).map fun (k : Nat) => .tuple [.int k, .int (ns.getD k 0)] := by
  unfold enumD
  rw [← fm_some (fun (k : Nat) => PyData.tuple [.int k, .int (ns.getD k 0)]), List.length_map]
  apply fm_congr
  intro k hk
  have := List.mem_range.mp hk
  simp [List.getElem?_map, List.getElem?_eq_getElem this, List.getD]
theorem cut_take {α : Type} (xs : List α) (k : Nat) (h : k ≤ xs.length) : cutL xs none (some (k : Int)) = xs.take k := by
  unfold cutL
  rw [HT.sIx_nat, HT.sIx_none]
  simp [Nat.min_eq_left h]
def unlG (ns : List Int) (x : D) : Option D := match x with
  | .tuple [.int k, .int i] => some (.bool (!memD (.int i) ((ns.map .int).take k.toNat)))
  | _ => none
theorem p7 (n : Nat) (ns : List Int) (hl : ns.length ≤ LIM) : (orc PG 1 (n + 1)).fn 7 [.tuple (ns.map .int)] = .ret (.bool (decide ns.Nodup)) 0 [] := by
  rw [orc_fn rfl]
  refine run_ret (e1 := [some (.tuple (ns.map .int), 0), none, none]) rfl ?_
  have l := ev_lc (C := orc PG 1 n) (k := 1) (own := [1, 2]) (p := .tp [(.nm 1), (.nm 2)]) (it := .enum (.bw 0)) (ifs := .nil) (elt := .cmp .notin (.bw 2) (.sl (.bw 0) .none (.some (.bw 1)))) (en := [some (.tuple (ns.map .int), 0), none, none]) (e1 := [some (.tuple (ns.map .int), 0), none, none]) (e0 := [some (.tuple (ns.map .int), 0), none, none]) (xs := enumD (ns.map .int)) (rts := []) (unlG ns) (by simp [evI, ev, rdBw, itemsD, itemsOk, rootsOf]) rfl rfl (by rw [enumD_ints]; simpa using hl) (fun x hx => by
      rw [enumD_ints] at hx
      obtain ⟨k, hk, e⟩ := List.mem_map.mp hx
      subst e
      have hk' := List.mem_range.mp hk
      refine ⟨[some (.tuple (ns.map .int), 0), some (.int k, 0), some (.int (ns.getD k 0), 0)], ?_, rfl⟩
      have hs : shp (.tuple ((ns.map PyData.int).take k)) = true := by
        rw [← List.map_take]; exact shp_tup_ints _
      have hc := cut_take (ns.map PyData.int) k (by simp; omega)
      simp [lcT, bindP, bindPs, evAnd1, ev, evO, rdBw, pend, muE, muO, muL, partO, slR, itemsOk, sliceD, flagOf, cmpD, shp_int, hc, hs, okB, keepItem, keepK, lf, unlG])
  have lt : (enumD (ns.map .int)).filterMap (unlG ns) = (List.range ns.length).map fun k => PyData.bool (!decide (ns.getD k 0 ∈ ns.take k)) := by
    rw [enumD_ints, List.filterMap_map, ← fm_some (fun k => PyData.bool (!decide (ns.getD k 0 ∈ ns.take k)))]
    apply fm_congr
    intro k hk
    show some _ = some _
    rw [Int.toNat_natCast, ← List.map_take, memD_ints]
  rw [lt] at l
  show ev (orc PG 1 n) (.bi .all (.cons (.lc 1 [1, 2] (.tp [(.nm 1), (.nm 2)]) (.enum (.bw 0)) .nil (.cmp .notin (.bw 2) (.sl (.bw 0) .none (.some (.bw 1))))) .nil)) [some (.tuple (ns.map .int), 0), none, none] = _
  rw [ev, evL, l]
  have hb : ((List.range ns.length).all fun k => !decide (ns.getD k 0 ∈ ns.take k)) = decide ns.Nodup := by
    rw [Bool.eq_iff_iff, List.all_eq_true, decide_eq_true_eq, nodup_take]
    simp
  simp [evL, pend, itemsOk, biD, dsOf, allD, flagOf, bools_map, List.all_map, Function.comp_def]
  simpa using hb
def ordB (v : D) (m : Int) : Bool := allIn v m m && match v with
  | .tuple xs => match intsD xs with
    | some ns => decide ns.Nodup
    | none => false
  | _ => false
theorem allIn_ints {v : D} {m m' : Int} (h : allIn v m m' = true) : ∃ ns : List Int, v = .tuple (ns.map .int) ∧ ns.length = m ∧ ∀ i ∈ ns, 0 ≤ i ∧ i ≤ m' - 1 := by
  cases v with
  | tuple xs =>
    simp only [allIn, Bool.and_eq_true, decide_eq_true_eq] at h
    have go : ∀ xs : List D, (xs.all fun x => inB x 0 (m' - 1)) = true → ∃ ns : List Int, xs = ns.map .int ∧ ∀ i ∈ ns, 0 ≤ i ∧ i ≤ m' - 1 := by
      intro xs
      induction xs with
      | nil => exact fun _ => ⟨[], rfl, fun i hi => nomatch hi⟩
      | cons x xs ih =>
        intro h
        rw [List.all_cons, Bool.and_eq_true] at h
        obtain ⟨ns, e, hn⟩ := ih h.2
        cases x with
        | int i =>
          refine ⟨i :: ns, by rw [e]; rfl, fun j hj => ?_⟩
          rcases List.mem_cons.mp hj with q | q
          · subst q
            simpa [inB] using h.1
          · exact hn j q
        | _ => simp [inB] at h
    obtain ⟨ns, e, hn⟩ := go xs h.2
    exact ⟨ns, by rw [e], by rw [← h.1, e]; simp, hn⟩
  | _ => simp [allIn] at h
theorem p9 (n : Nat) (v : D) (m : Int) (h : nl v = true) (hl : m ≤ LIM) : (orc PG 1 (n + 7)).fn 9 [v, .int m] = .ret (.bool (ordB v m)) 0 [] := by
  rw [orc_fn rfl]
  refine run_ret (e1 := [some (v, 0), some (.int m, 0), none]) rfl ?_
  have c := call_own (bl := []) (co := fun ds => lamOut ((orc PG 1 (n + 6)).fn 6 (ds ++ [loD 0 [.int m]]))) (rs := [(v, .own 0), (.int m, .own 0)]) (en := [some (v, 0), some (.int m, 0), none]) (d := .bool (allIn v m m)) (k := 0) rfl (by
    show lamOut ((orc PG 1 (n + 6)).fn 6 [v, .int m, loD 0 [.int m]]) = _
    rw [p6 n v m m h hl]
    rfl)
  simp [startE, argE, ev, evL, rdBw, pend, muL, capD, lf, c]
  by_cases ha : allIn v m m = true
  · obtain ⟨ns, e, h1, h2⟩ := allIn_ints ha
    subst e
    have c2 := call_own (bl := []) (co := (orc PG 1 (n + 6)).fn 7) (rs := [(.tuple (ns.map .int), .own 0)]) (en := [some (.tuple (ns.map .int), 0), some (.int m, 0), none]) rfl (p7 (n + 5) ns (by omega))
    simp [ha, evAnd, ev, evL, rdBw, pend, muL, ioBl, c2, ordB, ints_map]
  · simp [ha, ordB]
def isOrd (v : D) : Bool := match v with
  | .tuple xs => decide (1 ≤ xs.length) && decide (xs.length ≤ 10) && ordB (.tuple xs) xs.length
  | _ => false
theorem p10 (n : Nat) (v : D) (h : nl v = true) : (orc PG 1 (n + 8)).fn 10 [v] = .ret (.bool (isOrd v)) 0 [] := by
  rw [orc_fn rfl]
  refine run_ret (e1 := [some (v, 0)]) rfl ?_
  have c := call_own (bl := []) (co := (orc PG 1 (n + 7)).fn 3) (rs := [(v, .own 0), (.int 1, .own 0), (.int 10, .own 0)]) (en := [some (v, 0)]) rfl (p3 (n + 6) v 1 10 h)
  have g : (orc PG 1 (n + 7)).gl 0 = some (.int 10) := rfl
  simp [startE, argE, ev, evL, rdBw, pend, muL, ioBl, g, okD, c]
  by_cases ht : tupB v 1 10 = true
  · cases v with
    | tuple xs =>
      simp only [tupB, Bool.and_eq_true, decide_eq_true_eq] at ht
      have c2 := call_own (bl := []) (co := (orc PG 1 (n + 7)).fn 9) (rs := [(.tuple xs, .own 0), (.int xs.length, .own 0)]) (en := [some (.tuple xs, 0)]) rfl (p9 n (.tuple xs) xs.length h (by have : (LIM : Int) = 16777216 := rfl; omega))
      have h1 : 1 ≤ xs.length := by omega
      have h2 : xs.length ≤ 10 := by omega
      have h3 : (1 : Int) ≤ xs.length := by omega
      have h4 : (xs.length : Int) ≤ 10 := by omega
      simp [tupB, h1, h2, h3, h4, evAnd, ev, evL, rdBw, pend, muL, ioBl, itemsOk, biD, dsOf, lenD, flagOf, c2, isOrd]
    | _ => simp [tupB] at ht
  · have hf : isOrd v = false := by
      cases v with
      | tuple xs =>
        simp [tupB] at ht
        simp [isOrd]
        omega
      | _ => rfl
    simp [ht, hf]
def lenN (v : D) : Int := match v with
  | .tuple xs => xs.length
  | _ => 0
def isRace (v : D) : Bool := match v with
  | .tuple [a, b] => isOrd a && ordB b (lenN a)
  | _ => false
theorem isOrd_tup {v : D} (h : isOrd v = true) : ∃ ns : List Int, v = .tuple (ns.map .int) ∧ 1 ≤ ns.length ∧ ns.length ≤ 10 ∧ (∀ i ∈ ns, 0 ≤ i ∧ i < ns.length) ∧ ns.Nodup := by
  cases v with
  | tuple xs =>
    simp only [isOrd, ordB, Bool.and_eq_true, decide_eq_true_eq] at h
    obtain ⟨⟨h1, h2⟩, h3, h4⟩ := h
    obtain ⟨ns, e, q1, q2⟩ := allIn_ints h3
    cases e
    rw [ints_map] at h4
    simp at h1 h2 h4 q2
    exact ⟨ns, rfl, h1, h2, fun i hi => by have := q2 i hi; omega, h4⟩
  | _ => simp [isOrd] at h
theorem isOrd_of {ns : List Int} (h1 : 1 ≤ ns.length) (h2 : ns.length ≤ 10) (h3 : ∀ i ∈ ns, 0 ≤ i ∧ i < ns.length) (h4 : ns.Nodup) : isOrd (.tuple (ns.map .int)) = true := by
  have ha : (ns.map PyData.int).all (fun x => inB x 0 (ns.length - 1)) = true := by
    rw [List.all_eq_true]
    intro x hx
    obtain ⟨i, hi, e⟩ := List.mem_map.mp hx
    subst e
    have := h3 i hi
    simp [inB]
    omega
  simp only [isOrd, ordB, allIn, ints_map, List.length_map, ha]
  simp [h1, h2, h4]
theorem tup2 {v : D} (h : tupB v 2 2 = true) : ∃ a b, v = .tuple [a, b] := by
  cases v with
  | tuple xs =>
    simp only [tupB, Bool.and_eq_true, decide_eq_true_eq] at h
    match xs, h with
    | [a, b], _ => exact ⟨a, b, rfl⟩
    | [], h => simp at h
    | [a], h => simp at h
    | _ :: _ :: _ :: _, h => simp at h; omega
  | _ => simp [tupB] at h
theorem p11 (n : Nat) (v : D) (h : nl v = true) : (orc PG 1 (n + 9)).fn 11 [v] = .ret (.bool (isRace v)) 0 [] := by
  rw [orc_fn rfl]
  refine run_ret (e1 := [some (v, 0)]) rfl ?_
  have c := call_own (bl := []) (co := (orc PG 1 (n + 8)).fn 5) (rs := [(v, .own 0)]) (en := [some (v, 0)]) rfl (p5 (n + 5) v h)
  simp [startE, argE, ev, evL, rdBw, pend, muL, ioBl, c]
  by_cases ht : tupB v 2 2 = true
  · obtain ⟨a, b, e⟩ := tup2 ht
    subst e
    have hn : nl a = true ∧ nl b = true := by simpa [nl, nls] using h
    have c1 := call_own (bl := []) (co := (orc PG 1 (n + 8)).fn 10) (rs := [(a, .own 0)]) (en := [some (.tuple [a, b], 0)]) rfl (p10 n a hn.1)
    simp [ht, evAnd, ev, evL, rdBw, pend, muE, muL, ioBl, ixR, getD, ixD, L2.atI, L2.ixN, itemK, c1]
    by_cases ha : isOrd a = true
    · obtain ⟨ns, e, h1, h2, _⟩ := isOrd_tup ha
      subst e
      have c2 := call_own (bl := []) (co := (orc PG 1 (n + 8)).fn 9) (rs := [(b, .own 0), (.int ns.length, .own 0)]) (en := [some (.tuple [.tuple (ns.map .int), b], 0)]) rfl (p9 (n + 1) b ns.length hn.2 (by have : (LIM : Int) = 16777216 := rfl; omega))
      simp [ha, evAnd, ev, evL, rdBw, pend, muE, muL, ioBl, ixR, getD, ixD, L2.atI, L2.ixN, itemK, itemsOk, biD, dsOf, lenD, flagOf, c2, isRace, lenN]
    · simp [ha, isRace]
  · have hf : isRace v = false := by
      unfold isRace
      split
      · exact absurd (by simp [tupB]) ht
      · rfl
    simp [ht, hf]
theorem p12 (n : Nat) (v : D) (h : nl v = true) : (orc PG 1 (n + 9)).fn 12 [v] = .ret (.bool (isOrd v)) 0 [] := by
  rw [orc_fn rfl]
  refine run_ret (e1 := [some (v, 0)]) rfl ?_
  have c := call_own (bl := []) (co := (orc PG 1 (n + 8)).fn 10) (rs := [(v, .own 0)]) (en := [some (v, 0)]) rfl (p10 n v h)
  simp [startE, argE, ev, evL, rdBw, pend, muL, ioBl, c]
theorem p13 (n : Nat) (v : D) (h : nl v = true) : (orc PG 1 (n + 10)).fn 13 [v] = .ret (.bool (isRace v)) 0 [] := by
  rw [orc_fn rfl]
  refine run_ret (e1 := [some (v, 0)]) rfl ?_
  have c := call_own (bl := []) (co := (orc PG 1 (n + 9)).fn 11) (rs := [(v, .own 0)]) (en := [some (v, 0)]) rfl (p11 n v h)
  simp [startE, argE, ev, evL, rdBw, pend, muL, ioBl, c]
theorem p16 (n : Nat) (v : D) (h : nl v = true) : (orc PG 1 (n + 1)).fn 16 [v] = .ret (.bool (wholeB v)) 0 [] := by
  rw [orc_fn rfl]
  cases v with
  | dict kvs => cases nl_dict h; rfl
  | _ => rfl
theorem whole_ints : ∀ {xs : List D}, (∀ x ∈ xs, wholeB x = true) → ∃ ns : List Int, xs = ns.map .int
  | [], _ => ⟨[], rfl⟩
  | x :: xs, h => by
    obtain ⟨ns, e⟩ := whole_ints fun z hz => h z (List.mem_cons_of_mem _ hz)
    have := h x (List.mem_cons_self ..)
    cases x with
    | int i => exact ⟨i :: ns, by rw [e]; rfl⟩
    | _ => simp [wholeB] at this
theorem isOrd_sort (ns : List Int) (h1 : 1 ≤ ns.length) (h2 : ns.length ≤ 10) : isOrd (.tuple (ns.map .int)) = decide ((ns.mergeSort fun a b => decide (a ≤ b)) = rangeI ns.length) := by
  rw [Bool.eq_iff_iff, decide_eq_true_eq, sort_range]
  refine ⟨fun h => ?_, fun ⟨h3, h4⟩ => isOrd_of h1 h2 h3 h4⟩
  obtain ⟨ms, e, _, _, h3, h4⟩ := isOrd_tup h
  have e2 : ns = ms := by
    simp only [PyData.tuple.injEq] at e
    exact int_inj e
  subst e2
  exact ⟨h3, h4⟩
def f21l : E := (.lc 1 [1] (.nm 1) (.seq (.bw 0)) (.cons (.not_ (.call 16 [] (.cons (.bw 1) .nil) [])) .nil) (.var 1))
def f21c : E := (.or_ (.not_ (.bi (.isi "tuple") (.cons (.bw 0) .nil))) (.cons (.not_ (.ch2 .lt .lt (.cst (.int 0)) (.bi .len (.cons (.bw 0) .nil)) (.cst (.int 11)))) (.cons (.cmp .ne f21l (.lst 1 .nil)) .nil)))
def f21r : E := (.cmp .eq (.bi .sorted (.cons (.bi .list (.cons (.bw 0) .nil)) .nil)) (.rngl false (.cons (.bi .len (.cons (.bw 0) .nil)) .nil)))
theorem run_ite {C : Orc} {W np ns : Nat} {c e : E} {ds : List D} (h : ds.length = np) {t d : D} {b : Bool} {e1 e2 : En} (q : evB C c (startE { np := np, ns := ns, body := .cons (.ite c (.cons (.ret (.cst t)) .nil) .nil) (.cons (.ret e) .nil) } ds) = .ok b e1) (q1 : b = true → d = t) (q2 : b = false → ev C e e1 = .ok (d, .own 0) e2) :
    runD C W { np := np, ns := ns, body := .cons (.ite c (.cons (.ret (.cst t)) .nil) .nil) (.cons (.ret e) .nil) } ds = .ret d 0 [] := by
  unfold runD
  rw [if_pos h]
  simp only [exs, ex, q, Out.bind_ok]
  cases b with
  | true =>
    cases q1 rfl
    simp [exs, ex, ev, fls, keepK, iosOut]
  | false => simp [exs, fls, q2 rfl, keepK, iosOut]
end QQ
namespace QQ
open PySem L2
theorem l21a (n : Nat) (ns : List Int) (h2 : ns.length ≤ 10) : ev (orc PG 1 (n + 1)) f21l [some (.tuple (ns.map .int), 0), none] = .ok (.list [], .own 1) [some (.tuple (ns.map .int), 0), none] := by
  have l := ev_lc (C := orc PG 1 (n + 1)) (k := 1) (own := [1]) (p := .nm 1) (it := .seq (.bw 0)) (ifs := (.cons (.not_ (.call 16 [] (.cons (.bw 1) .nil) [])) .nil)) (elt := .var 1) (en := [some (.tuple (ns.map .int), 0), none]) (e1 := [some (.tuple (ns.map .int), 0), none]) (e0 := [some (.tuple (ns.map .int), 0), none]) (xs := ns.map .int) (rts := []) (fun _ => none) (by simp [evI, ev, rdBw, itemsD, itemsOk, rootsOf]) rfl rfl (by rw [LIM_eq, List.length_map]; omega) (fun x hx => by
    obtain ⟨i, hi, e⟩ := List.mem_map.mp hx
    subst e
    refine ⟨[some (.tuple (ns.map .int), 0), some (.int i, 0)], ?_, rfl⟩
    have c2 := call_own (bl := []) (co := (orc PG 1 (n + 1)).fn 16) (rs := [(.int i, .own 0)]) (en := [some (.tuple (ns.map .int), 0), some (.int i, 0)]) rfl (p16 n (.int i) rfl)
    simp [lcT, bindP, evAnd1, ev, evL, rdBw, pend, muE, muL, ioBl, c2, wholeB])
  have hf : (ns.map PyData.int).filterMap (fun _ => (none : Option D)) = [] := by simp
  rw [hf] at l
  exact l
theorem l21b (n : Nat) (xs : List D) (h : nl (.tuple xs) = true) (h2 : xs.length ≤ 10) : ev (orc PG 1 (n + 1)) f21l [some (.tuple xs, 0), none] = .ok (.list (xs.filterMap (fun x => if wholeB x then none else some x)), .own 1) [some (.tuple xs, 0), none] :=
  ev_lc (C := orc PG 1 (n + 1)) (k := 1) (own := [1]) (p := .nm 1) (it := .seq (.bw 0)) (ifs := (.cons (.not_ (.call 16 [] (.cons (.bw 1) .nil) [])) .nil)) (elt := .var 1) (en := [some (.tuple xs, 0), none]) (e1 := [some (.tuple xs, 0), none]) (e0 := [some (.tuple xs, 0), none]) (xs := xs) (rts := []) (fun x => if wholeB x then none else some x) (by simp [evI, ev, rdBw, itemsD, itemsOk, rootsOf]) rfl rfl (by rw [LIM_eq]; omega) (fun x hx => by
    refine ⟨[some (.tuple xs, 0), some (x, 0)], ?_, rfl⟩
    have c2 := call_own (bl := []) (co := (orc PG 1 (n + 1)).fn 16) (rs := [(x, .own 0)]) (en := [some (.tuple xs, 0), some (x, 0)]) rfl (p16 n x (nls_all h x hx))
    simp [lcT, bindP, evAnd1, ev, evL, rdBw, rdVar, pend, muE, muL, ioBl, c2]
    cases wholeB x <;> simp [keepItem, keepK])
/-- the test of 21: of a tuple of a right length -/
theorem c21 {n : Nat} {xs ys : List D} (l : ev (orc PG 1 (n + 1)) f21l [some (.tuple xs, 0), none] = .ok (.list ys, .own 1) [some (.tuple xs, 0), none]) (hs : shp (.list ys) = true) (h3 : 0 < xs.length) (h4 : xs.length < 11) :
    evB (orc PG 1 (n + 1)) f21c [some (.tuple xs, 0), none] = .ok (!PyData.eqv (.list ys) (.list [])) [some (.tuple xs, 0), none] := by
  have h5 : (xs.length : Int) < 11 := by omega
  have s0 : shp (.list []) = true := rfl
  simp [f21c, evB, ev, evL, evOr, rdBw, pend, muE, muL, itemsOk, biD, isiD, isTy, tyName, dsOf, flagOf, lenD, cmpD, ordF, okB, h3, h5, l, s0, hs]
theorem c21n {C : Orc} {xs : List D} (h : ¬ (0 < xs.length ∧ xs.length < 11)) : evB C f21c [some (.tuple xs, 0), none] = .ok true [some (.tuple xs, 0), none] := by
  by_cases h4 : 0 < xs.length
  · have h5 : ¬ (xs.length : Int) < 11 := by omega
    simp -implicitDefEqProofs [f21c, evB, ev, evL, evOr, rdBw, pend, muE, muL, itemsOk, biD, isiD, isTy, tyName, dsOf, flagOf, lenD, cmpD, ordF, okB, h4, h5]
  · simp -implicitDefEqProofs [f21c, evB, ev, evL, evOr, rdBw, pend, muE, muL, itemsOk, biD, isiD, isTy, tyName, dsOf, flagOf, lenD, cmpD, ordF, okB, h4]
theorem c21t {C : Orc} {v : D} (h : nl v = true) (ht : ∀ xs, v ≠ .tuple xs) : evB C f21c [some (v, 0), none] = .ok true [some (v, 0), none] := by
  cases v with
  | tuple xs => exact absurd rfl (ht xs)
  | dict kvs =>
    cases nl_dict h
    simp [f21c, evB, ev, evL, rdBw, pend, muL, itemsOk, biD, isiD, isTy, tyName, dsOf, flagOf]
  | _ => simp [f21c, evB, ev, evL, rdBw, pend, muL, itemsOk, biD, isiD, isTy, tyName, dsOf, flagOf]
theorem r21 {C : Orc} (ns : List Int) (h1 : 1 ≤ ns.length) (h2 : ns.length ≤ 10) : ev C f21r [some (.tuple (ns.map .int), 0), none] = .ok (.bool (isOrd (.tuple (ns.map .int))), .own 0) [some (.tuple (ns.map .int), 0), none] := by
  have hr := range_len (m := ns.length) (by omega)
  have so : srtC [.list (ns.map .int)] = some (.list ((ns.mergeSort fun a b => decide (a ≤ b)).map .int)) := by
    simp only [srtC, sortOk_ints, sortD_ints, if_pos]
  have a1 : ev C (.bi .list (.cons (.bw 0) .nil)) [some (.tuple (ns.map .int), 0), none] = .ok (.list (ns.map .int), .own 1) [some (.tuple (ns.map .int), 0), none] := by
    simp [ev, evL, rdBw, pend, muL, itemsOk, biD, lstC, dsOf, flagOf]
  have a2 : ev C (.bi .sorted (.cons (.bi .list (.cons (.bw 0) .nil)) .nil)) [some (.tuple (ns.map .int), 0), none] = .ok (.list ((ns.mergeSort fun a b => decide (a ≤ b)).map .int), .own 1) [some (.tuple (ns.map .int), 0), none] := by
    rw [ev, evL, a1]
    simp only [Out.bind_ok, evL, pend, if_pos, List.all_cons, List.all_nil, itemsOk, Bool.and_true, biD, dsOf, List.map_cons, List.map_nil, so, flagOf]
  have a3 : ev C (.bi .len (.cons (.bw 0) .nil)) [some (.tuple (ns.map .int), 0), none] = .ok (.int ns.length, .own 0) [some (.tuple (ns.map .int), 0), none] := by
    simp [ev, evL, rdBw, pend, muL, itemsOk, biD, lenD, dsOf, flagOf]
  have a4 : ev C (.rngl false (.cons (.bi .len (.cons (.bw 0) .nil)) .nil)) [some (.tuple (ns.map .int), 0), none] = .ok (.list ((rangeI ns.length).map .int), .own 1) [some (.tuple (ns.map .int), 0), none] := by
    refine ev_rngl (rs := [(.int ns.length, .own 0)]) ?_ hr
    rw [evL, a3]
    rfl
  rw [f21r, ev, a2]
  simp only [Out.bind_ok, a4, pend, if_pos, cmpD, shp_lst_ints, Bool.and_self, eqv_lst_ints, okB, isOrd_sort ns h1 h2]
theorem p21 (n : Nat) (v : D) (h : nl v = true) (hs : ∀ xs, v = .tuple xs → ∀ x ∈ xs, sh 8 x = true) : (orc PG 1 (n + 2)).fn 21 [v] = .ret (.bool (isOrd v)) 0 [] := by
  rw [orc_fn rfl]
  show runD (orc PG 1 (n + 1)) 1 { np := 1, ns := 2, body := .cons (.ite f21c (.cons (.ret (.cst (.bool false))) .nil) .nil) (.cons (.ret f21r) .nil) } [v] = _
  by_cases hb : ∃ ns : List Int, v = .tuple (ns.map .int) ∧ 1 ≤ ns.length ∧ ns.length ≤ 10
  · obtain ⟨ns, e, h1, h2⟩ := hb
    subst e
    exact run_ite (b := false) rfl (c21 (l21a n ns h2) rfl (by simp; omega) (by simp; omega)) (fun z => nomatch z) fun _ => r21 ns h1 h2
  · have hf : isOrd v = false := by
      cases q : isOrd v with
      | false => rfl
      | true =>
        obtain ⟨ns, e, h1, h2, _⟩ := isOrd_tup q
        exact absurd ⟨ns, e, h1, h2⟩ hb
    rw [hf]
    refine run_ite (b := true) (e1 := [some (v, 0), none]) (e2 := []) rfl ?_ (fun _ => rfl) fun z => nomatch z
    cases v with
    | tuple xs =>
      by_cases h3 : 0 < xs.length ∧ xs.length < 11
      · have l := l21b n xs h (by omega)
        generalize hy : xs.filterMap (fun x => if wholeB x = true then none else some x) = ys at l
        have hsy : shp (.list ys) = true := sh_shp (k := 9) (sh_list fun x hx => by
          rw [← hy] at hx
          obtain ⟨a, ha, e⟩ := List.mem_filterMap.mp hx
          cases q : wholeB a with
          | true => rw [q] at e; simp at e
          | false =>
            rw [q] at e
            simp at e
            subst e
            exact hs xs rfl a ha) (by omega)
        have hne : PyData.eqv (.list ys) (.list []) = false := by
          cases ys with
          | cons y ys => rfl
          | nil =>
            exfalso
            obtain ⟨ns, e⟩ := whole_ints (xs := xs) fun x hx => by
              cases q : wholeB x with
              | true => rfl
              | false =>
                have : x ∈ xs.filterMap (fun x => if wholeB x = true then none else some x) := List.mem_filterMap.mpr ⟨x, hx, by simp [q]⟩
                rw [hy] at this
                cases this
            subst e
            simp at h3
            exact hb ⟨ns, rfl, by omega, by omega⟩
        have := c21 l hsy h3.1 h3.2
        rw [hne] at this
        exact this
      · exact c21n h3
    | _ => exact c21t h fun xs => PyData.noConfusion
/-- what 21 may be asked about -/
def okV (v : D) : Prop := nl v = true ∧ ∀ xs, v = .tuple xs → ∀ x ∈ xs, sh 8 x = true
theorem ord_two {ns : List Int} {b : D} (h1 : 1 ≤ ns.length) (h2 : ns.length ≤ 10) : ordB b ns.length = (isOrd b && decide ((ns.length : Int) = lenN b)) := by
  rw [Bool.eq_iff_iff, Bool.and_eq_true, decide_eq_true_eq]
  refine ⟨fun h => ?_, fun ⟨h, hl⟩ => ?_⟩
  · have h' := h
    simp only [ordB, Bool.and_eq_true] at h
    obtain ⟨ha, hn⟩ := h
    obtain ⟨ms, e, q1, q2⟩ := allIn_ints ha
    subst e
    simp only [ints_map, decide_eq_true_eq] at hn
    exact ⟨isOrd_of (by omega) (by omega) (fun i hi => by have := q2 i hi; omega) hn, by simp [lenN]; omega⟩
  · obtain ⟨ms, e, q1, q2, _⟩ := isOrd_tup h
    subst e
    simp [lenN] at hl
    simp only [isOrd, Bool.and_eq_true] at h
    have := h.2
    rw [List.length_map] at this
    rw [hl]
    exact this
theorem eqv_int (a b : Int) : PyData.eqv (.int a) (.int b) = (a == b) := by rw [PyData.eqv]
theorem p22 (n : Nat) (v : D) (h : nl v = true) (hs : ∀ xs, v = .tuple xs → ∀ x ∈ xs, okV x) : (orc PG 1 (n + 3)).fn 22 [v] = .ret (.bool (isRace v)) 0 [] := by
  rw [orc_fn rfl]
  refine run_ret (e1 := [some (v, 0)]) rfl ?_
  cases v with
  | tuple xs =>
    by_cases hl : xs.length = 2
    · match xs, hl with
      | [a, b], _ =>
        have oa := hs _ rfl a (by simp)
        have ob := hs _ rfl b (by simp)
        have c1 := call_own (bl := []) (co := (orc PG 1 (n + 2)).fn 21) (rs := [(a, .own 0)]) (en := [some (.tuple [a, b], 0)]) rfl (p21 n a oa.1 oa.2)
        have c2 := call_own (bl := []) (co := (orc PG 1 (n + 2)).fn 21) (rs := [(b, .own 0)]) (en := [some (.tuple [a, b], 0)]) rfl (p21 n b ob.1 ob.2)
        simp [startE, argE, ev, evL, evAnd, rdBw, pend, muE, muL, ioBl, itemsOk, biD, isiD, isTy, tyName, dsOf, lenD, flagOf, cmpD, shp_int, eqv_int, okB, ixR, getD, ixD, L2.atI, L2.ixN, itemK, c1, c2]
        by_cases ha : isOrd a = true
        · obtain ⟨ns, e, h1, h2, _⟩ := isOrd_tup ha
          subst e
          by_cases hb : isOrd b = true
          · obtain ⟨ms, e, h3, h4, _⟩ := isOrd_tup hb
            subst e
            have hr : isRace (.tuple [.tuple (ns.map .int), .tuple (ms.map .int)]) = decide ((ns.length : Int) = ms.length) := by
              have e1 : lenN (.tuple (ns.map PyData.int)) = ns.length := by simp [lenN]
              have e2 : lenN (.tuple (ms.map PyData.int)) = ms.length := by simp [lenN]
              simp only [isRace, ha, e1, ord_two h1 h2, hb, e2, Bool.true_and]
            rw [hr]
            simp [ha, hb, shp_int, okB, itemsOk, eqv_int]
            try rfl
          · have hr : isRace (.tuple [.tuple (ns.map .int), b]) = false := by
              have e1 : lenN (.tuple (ns.map PyData.int)) = ns.length := by simp [lenN]
              simp only [isRace, e1, ord_two h1 h2]
              simp [hb]
            simp [ha, hb, hr]
        · have hr : isRace (.tuple [a, b]) = false := by simp [isRace, ha]
          simp [ha, hr]
    · have hr : isRace (.tuple xs) = false := by
        unfold isRace
        split
        · rename_i q
          cases q
          simp at hl
        · rfl
      have hl2 : ((xs.length : Int) == 2) = false := by
        rw [beq_eq_false_iff_ne]; omega
      simp [startE, argE, ev, evL, evAnd, rdBw, pend, muE, muL, itemsOk, biD, isiD, isTy, tyName, dsOf, lenD, flagOf, cmpD, shp_int, eqv_int, okB, hl2, hr]
  | dict kvs =>
    cases nl_dict h
    simp [startE, argE, ev, evL, rdBw, pend, muL, itemsOk, biD, isiD, isTy, tyName, dsOf, flagOf, isRace]
  | _ => simp [startE, argE, ev, evL, rdBw, pend, muL, itemsOk, biD, isiD, isTy, tyName, dsOf, flagOf, isRace]
end QQ
namespace QQ
open PySem L2
theorem p14 (n : Nat) (ns : List Int) (lap : Nat) : ∃ a b, (orc PG 1 (n + 1)).fn 14 [scrD (ns.map .int), .int lap] = .ret (pool a b 0) 1 [] := by
  rw [orc_fn (F := poolF 70001 8746 1331326 5087 48271 2147483497 1272 1013) rfl]
  exact pool_ok ns lap (by omega) (by omega) (by omega) (by omega) (by omega)
theorem p15 (n : Nat) : DrawOk (orc PG 1 (n + 1)) 15 := fun a b c m hm => by
  rw [orc_fn (F := drawF 20011 30011 70001 9 2147483497 128) rfl]
  exact draw_ok a b c m (by omega) (by omega) (by omega) (by omega) (by omega) hm
theorem p19 (n : Nat) : OrderOk (orc PG 1 (n + 2)) 19 := fun a b c m hm => by
  rw [orc_fn (F := orderF 15) rfl]
  exact order_ok (p15 n) a b c m hm
theorem p20 (n : Nat) : RaceOk (orc PG 1 (n + 3)) 20 := fun a b c m h1 hm => by
  rw [orc_fn (F := raceF 15 19) rfl]
  exact race_ok (p15 (n + 1)) (p19 n) a b c m h1 hm
theorem add_tup (xs ys : List D) (h : xs.length + ys.length ≤ LIM) : binD .add (.tuple xs) (.tuple ys) = some (.tuple (xs ++ ys)) := by
  simp only [binD]
  rw [if_pos h]
theorem add_lst (xs ys : List D) (h : xs.length + ys.length ≤ LIM) : binD .add (.list xs) (.list ys) = some (.list (xs ++ ys)) := by
  simp only [binD]
  rw [if_pos h]
theorem cut_drop {α : Type} (xs : List α) (k : Nat) (h : k ≤ xs.length) : cutL xs (some (k : Int)) none = xs.drop k := by
  unfold cutL
  rw [HT.sIx_nat, HT.sIx_none, Nat.min_eq_left h]
  apply List.take_of_length_le
  simp
theorem p17 (n : Nat) (xs : List D) (at_ : Nat) (v : D) (h : at_ < xs.length) (hl : xs.length ≤ 10000) : (orc PG 1 (n + 1)).fn 17 [.tuple xs, .int at_, v] = .ret (.tuple (xs.take at_ ++ [v] ++ xs.drop (at_ + 1))) 0 [] := by
  rw [orc_fn rfl]
  refine run_ret (e1 := [some (.tuple xs, 0), some (.int at_, 0), some (v, 0)]) rfl ?_
  show ev _ (.bin .add (.bin .add (.sl (.bw 0) .none (.some (.bw 1))) (.tup (.cons (.var 2) .nil))) (.sl (.bw 0) (.some (.bin .add (.bw 1) (.cst (.int 1)))) .none)) [some (.tuple xs, 0), some (.int at_, 0), some (v, 0)] = _
  have c1 := cut_take xs at_ (by omega)
  have c2 := cut_drop xs (at_ + 1) (by omega)
  have c2' : cutL xs (some ((at_ : Int) + 1)) none = xs.drop (at_ + 1) := c2
  have a1 := add_tup (xs.take at_) [v] (by rw [LIM_eq, List.length_take]; simp; omega)
  have a2 := add_tup (xs.take at_ ++ [v]) (xs.drop (at_ + 1)) (by rw [LIM_eq, List.length_append, List.length_take, List.length_drop]; simp; omega)
  have e1 : ev (orc PG 1 n) (.bin .add (.sl (.bw 0) .none (.some (.bw 1))) (.tup (.cons (.var 2) .nil))) [some (.tuple xs, 0), some (.int at_, 0), some (v, 0)] = .ok (.tuple (xs.take at_ ++ [v]), .own 0) [some (.tuple xs, 0), some (.int at_, 0), some (v, 0)] := by
    simp [ev, evL, evO, rdBw, rdVar, pend, partO, slR, itemsOk, sliceD, c1, flagOf, keepK, dsOf, a1]
  have e2 : ev (orc PG 1 n) (.sl (.bw 0) (.some (.bin .add (.bw 1) (.cst (.int 1)))) .none) [some (.tuple xs, 0), some (.int at_, 0), some (v, 0)] = .ok (.tuple (xs.drop (at_ + 1)), .own 0) [some (.tuple xs, 0), some (.int at_, 0), some (v, 0)] := by
    simp [ev, evL, evO, rdBw, rdVar, pend, partO, slR, itemsOk, sliceD, c2', flagOf, keepK, dsOf, binD]
  rw [ev, e1]
  simp only [Out.bind_ok, e2]
  simp [pend, itemsOk, flagOf, List.append_assoc] at a2 ⊢
  rw [a2]
theorem p18 (n : Nat) (a b : Bool) : (orc PG 1 (n + 1)).fn 18 [.bool a, .bool b] = .ret (.bool (a == b)) 0 [] := by
  rw [orc_fn rfl]
  cases a <;> cases b <;> rfl
/-! ### near ones -/
def nearP : S := (.par [2, 3, 4] (.cons (.call 15 [1] (.cons (.bw 0) (.cons (.bi .len (.cons (.bw 1) .nil)) .nil)) []) (.cons (.call 15 [1] (.cons (.bw 0) (.cons (.bi .len (.cons (.bw 1) .nil)) .nil)) []) (.cons (.bi .len (.cons (.bw 1) .nil)) .nil))))
def nearL : E := (.lst 1 (.cons (.var 1) (.cons (.rev (.bw 1)) (.cons (.sl (.bw 1) (.some (.cst (.int 1))) .none) (.cons (.sl (.bw 1) .none (.some (.neg (.cst (.int 1))))) (.cons (.bi .list (.cons (.bw 1) .nil)) (.cons (.tup (.cons (.var 1) .nil)) (.cons (.bin .add (.bw 1) (.tup (.cons (.var 4) .nil))) (.cons (.bin .add (.bw 1) (.sl (.bw 1) .none (.some (.cst (.int 1))))) (.cons (.bin .add (.bw 1) (.tup (.cons (.bin .add (.bw 4) (.cst (.int 1))) .nil))) (.cons (.cst .none) (.cons (.tup .nil) (.cons (.cst (.int 0)) (.cons (.cst (.bool true)) (.cons .dic0 (.cons (.cst (.str (PySem.Str.ofString "01"))) (.cons (.tup (.cons (.cst (.int 0)) .nil)) (.cons (.tup (.cons (.cst (.int 1)) .nil)) (.cons (.tup (.cons (.cst (.bool false)) .nil)) (.cons (.tup (.cons (.cst (.int 0)) (.cons (.cst (.int 0)) .nil))) .nil))))))))))))))))))))
def nearO : E := (.lst 1 (.cons (.ix (.bw 1) (.bw 3)) (.cons (.var 4) (.cons (.neg (.cst (.int 1))) (.cons (.cst .none) (.cons (.bi .str (.cons (.ix (.bw 1) (.bw 2)) .nil)) (.cons (.tup (.cons (.ix (.bw 1) (.bw 2)) .nil)) (.cons (.bin .pow (.cst (.int 10)) (.cst (.int 29))) (.cons (.cst (.bool true)) (.cons (.cst (.bool false)) (.cons (.cmp .eq (.ix (.bw 1) (.bw 2)) (.cst (.int 1))) (.cons (.bin .add (.ix (.bw 1) (.bw 2)) (.cst (.int 1))) .nil))))))))))))
def nearB : SL := (.cons (.ex (.mu .append 5 (.cons (.call 17 [] (.cons (.bw 1) (.cons (.bw 2) (.cons (.bw 6) .nil))) []) .nil))) .nil)
def nearR : E := (.bin .add (.bw 5) (.lst 1 (.cons (.rngl true (.cons (.cst (.int 10)) .nil)) (.cons (.rngl true (.cons (.cst (.int 11)) .nil)) (.cons (.bi .tuple (.cons (.lc 1 [7] (.nm 7) (.seq (.bw 1)) .nil (.bin .add (.bw 7) (.cst (.int 1)))) .nil)) .nil)))))
theorem f23_eq : f23 = { np := 2, ns := 8, io := [1], body := (.cons nearP (.cons (.asg (.nm 5) nearL) (.cons (.for_ (.nm 6) (.seq nearO) nearB) (.cons (.ret nearR) .nil)))) } := rfl
theorem strs_ok : ∀ k : Fin 10, PyData.canLay0 (.str (toString (k.val : Int))) = true := by decide +kernel

def ok8 (v : D) : Prop := nl v = true ∧ sh 8 v = true
theorem ok8_int (i : Int) : ok8 (.int i) := ⟨rfl, sh_int 8 i⟩
theorem okV_tup {xs : List D} (h : ∀ x ∈ xs, ok8 x) : okV (.tuple xs) := ⟨by rw [nl]; exact nls_of fun x hx => (h x hx).1, fun ys e x hx => by cases e; exact (h x hx).2⟩
theorem okV_of {v : D} (h : nl v = true) (ht : ∀ xs, v ≠ .tuple xs) : okV v := ⟨h, fun xs e => absurd e (ht xs)⟩
theorem ok8_tup {xs : List D} (h : ∀ x ∈ xs, ∃ i, x = PyData.int i) : ok8 (.tuple xs) := ⟨by
  rw [nl]; exact nls_of fun x hx => by obtain ⟨i, e⟩ := h x hx; rw [e]; rfl, sh_mono (sh_tuple (k := 0) fun x hx => by obtain ⟨i, e⟩ := h x hx; rw [e]; exact sh_int 0 i) (by omega)⟩
theorem near_l {C : Orc} {ns : List Int} {m : Int} {p s2 s3 s5 s6 s7 : Sl} (hl : ns.length ≤ 10) : ∃ vs : List D, ev C nearL [p, some (.tuple (ns.map .int), 0), s2, s3, some (.int m, 0), s5, s6, s7] = .ok (.list vs, .own 1) [p, some (.tuple (ns.map .int), 0), s2, s3, some (.int m, 0), s5, s6, s7] ∧ vs.length = 19 ∧ ∀ v ∈ vs, okV v := by
  have hx : ∀ x ∈ ns.map PyData.int, ∃ i, x = PyData.int i := fun x hx => by
    obtain ⟨i, _, e⟩ := List.mem_map.mp hx
    exact ⟨i, e.symm⟩
  have hlx : (ns.map PyData.int).length ≤ 10 := by simpa using hl
  revert hx hlx
  generalize ns.map PyData.int = xs
  intro hx hlx
  have k1 : (cutL xs none (some 1)).length ≤ 10 := by
    unfold cutL
    rw [List.length_take, List.length_drop]
    omega
  have a1 := add_tup xs [.int m] (by rw [LIM_eq]; simp; omega)
  have a2 := add_tup xs (cutL xs none (some 1)) (by rw [LIM_eq]; omega)
  have a3 := add_tup xs [.int (m + 1)] (by rw [LIM_eq]; simp; omega)
  have a4 : binD .add (.int m) (.int 1) = some (.int (m + 1)) := rfl
  refine ⟨[.tuple xs, .tuple xs.reverse, .tuple (cutL xs (some 1) none), .tuple (cutL xs none (some (-1))), .list xs, .tuple [.tuple xs], .tuple (xs ++ [.int m]), .tuple (xs ++ cutL xs none (some 1)), .tuple (xs ++ [.int (m + 1)]), .none, .tuple [], .int 0, .bool true, .dict [], .str (PySem.Str.ofString "01"), .tuple [.int 0], .tuple [.int 1], .tuple [.bool false], .tuple [.int 0, .int 0]], ?_, rfl, ?_⟩
  · rw [nearL]
    simp [ev, evL, evO, rdVar, rdBw, pend, partO, slR, itemsOk, sliceD, revD, flagOf, keepK, keepItem, biD, dsOf, lstC, a1, a2, a3, a4]
  · have hc : ∀ {lo hi : Option Int}, ∀ x ∈ cutL xs lo hi, ∃ i, x = PyData.int i := fun x h => hx x (List.mem_of_mem_drop (List.mem_of_mem_take h))
    have h8 : ∀ {x : D}, (∃ i, x = PyData.int i) → ok8 x := fun ⟨i, e⟩ => by rw [e]; exact ok8_int i
    have hap : ∀ {ys zs : List D}, (∀ x ∈ ys, ∃ i, x = PyData.int i) → (∀ x ∈ zs, ∃ i, x = PyData.int i) → okV (.tuple (ys ++ zs)) := fun h1 h2 => okV_tup fun x h => by
      rcases List.mem_append.mp h with q | q
      · exact h8 (h1 x q)
      · exact h8 (h2 x q)
    have h1 : ∀ {j : Int}, ∀ x ∈ [PyData.int j], ∃ i, x = PyData.int i := fun {j} x h => ⟨j, by simpa using h⟩
    have nn : nls xs = true := nls_of fun x h => (h8 (hx x h)).1
    have o0 : ok8 (.int 0) := ok8_int 0
    intro v hv
    simp only [List.mem_cons, List.not_mem_nil, or_false] at hv
    rcases hv with h | h | h | h | h | h | h | h | h | h | h | h | h | h | h | h | h | h | h
    · rw [h]; exact okV_tup fun x q => h8 (hx x q)
    · rw [h]; exact okV_tup fun x q => h8 (hx x (List.mem_reverse.mp q))
    · rw [h]; exact okV_tup fun x q => h8 (hc x q)
    · rw [h]; exact okV_tup fun x q => h8 (hc x q)
    · rw [h]; exact okV_of (by rw [nl]; exact nn) fun _ => PyData.noConfusion
    · rw [h]; exact okV_tup fun x q => by
        have : x = .tuple xs := by simpa using q
        rw [this]; exact ok8_tup hx
    · rw [h]; exact hap hx h1
    · rw [h]; exact hap hx hc
    · rw [h]; exact hap hx h1
    · rw [h]; exact okV_of rfl fun _ => PyData.noConfusion
    · rw [h]; exact okV_tup fun x q => nomatch q
    · rw [h]; exact okV_of rfl fun _ => PyData.noConfusion
    · rw [h]; exact okV_of rfl fun _ => PyData.noConfusion
    · rw [h]; exact okV_of rfl fun _ => PyData.noConfusion
    · rw [h]; exact okV_of rfl fun _ => PyData.noConfusion
    · rw [h]; exact okV_tup fun x q => by
        have : x = .int 0 := by simpa using q
        rw [this]; exact o0
    · rw [h]; exact okV_tup fun x q => by
        have : x = .int 1 := by simpa using q
        rw [this]; exact ok8_int 1
    · rw [h]; exact okV_tup fun x q => by
        have : x = .bool false := by simpa using q
        rw [this]; exact ⟨rfl, rfl⟩
    · rw [h]; exact okV_tup fun x q => by
        have : x = .int 0 := by simpa using q
        rw [this]; exact o0
theorem str_ok {i : Int} (h : 0 ≤ i ∧ i < 10) : strC [.int i] = some (.str (toString i)) ∧ ok8 (.str (toString i)) := by
  obtain ⟨k, rfl⟩ := Int.eq_ofNat_of_zero_le h.1
  have hk : k < 10 := by omega
  have h1 := strs_ok ⟨k, hk⟩
  have h2 : ((k : Int)).natAbs.log2 < 1920 := by
    have : ((k : Int)).natAbs.log2 ≤ ((k : Int)).natAbs := Nat.log2_le_self _
    omega
  refine ⟨?_, rfl, ?_⟩
  · simp only [strC]
    rw [if_pos h2]
  · unfold sh
    rw [Bool.and_eq_true]
    exact ⟨h1, rfl⟩
theorem near_o {C : Orc} {ns : List Int} {a t : Nat} {p s5 s6 s7 : Sl} (ha : a < ns.length) (ht : t < ns.length) (hb : ∀ i ∈ ns, 0 ≤ i ∧ i < 10) : ∃ vs : List D, ev C nearO [p, some (.tuple (ns.map .int), 0), some (.int a, 0), some (.int t, 0), some (.int ns.length, 0), s5, s6, s7] = .ok (.list vs, .own 1) [p, some (.tuple (ns.map .int), 0), some (.int a, 0), some (.int t, 0), some (.int ns.length, 0), s5, s6, s7] ∧ vs.length = 11 ∧ ∀ v ∈ vs, ok8 v := by
  have i2 : ev C (.ix (.bw 1) (.bw 2)) [p, some (.tuple (ns.map .int), 0), some (.int a, 0), some (.int t, 0), some (.int ns.length, 0), s5, s6, s7] = .ok (.int ns[a], .own 0) [p, some (.tuple (ns.map .int), 0), some (.int a, 0), some (.int t, 0), some (.int ns.length, 0), s5, s6, s7] := by
    have := ev_ix0 (C := C) (i := 1) (e := .bw 2) (en := [p, some (.tuple (ns.map .int), 0), some (.int a, 0), some (.int t, 0), some (.int ns.length, 0), s5, s6, s7]) (xs := ns.map .int) (k := a) rfl (ev_bw0 rfl) (by simpa using ha)
    rw [this, List.getElem_map]
  have i3 : ev C (.ix (.bw 1) (.bw 3)) [p, some (.tuple (ns.map .int), 0), some (.int a, 0), some (.int t, 0), some (.int ns.length, 0), s5, s6, s7] = .ok (.int ns[t], .own 0) [p, some (.tuple (ns.map .int), 0), some (.int a, 0), some (.int t, 0), some (.int ns.length, 0), s5, s6, s7] := by
    have := ev_ix0 (C := C) (i := 1) (e := .bw 3) (en := [p, some (.tuple (ns.map .int), 0), some (.int a, 0), some (.int t, 0), some (.int ns.length, 0), s5, s6, s7]) (xs := ns.map .int) (k := t) rfl (ev_bw0 rfl) (by simpa using ht)
    rw [this, List.getElem_map]
  obtain ⟨st, o8⟩ := str_ok (hb ns[a] (List.getElem_mem ha))
  generalize ns[a] = x at i2 st o8
  generalize ns[t] = y at i3
  have hp := pow_ok 10 29 (by omega) (by decide)
  have e1 : ev C (.bi .str (.cons (.ix (.bw 1) (.bw 2)) .nil)) [p, some (.tuple (ns.map .int), 0), some (.int a, 0), some (.int t, 0), some (.int ns.length, 0), s5, s6, s7] = .ok (.str (toString x), .own 0) [p, some (.tuple (ns.map .int), 0), some (.int a, 0), some (.int t, 0), some (.int ns.length, 0), s5, s6, s7] := by
    rw [ev, evL, i2]
    simp [evL, pend, itemsOk, biD, dsOf, st, flagOf]
  have e2 : ev C (.tup (.cons (.ix (.bw 1) (.bw 2)) .nil)) [p, some (.tuple (ns.map .int), 0), some (.int a, 0), some (.int t, 0), some (.int ns.length, 0), s5, s6, s7] = .ok (.tuple [.int x], .own 0) [p, some (.tuple (ns.map .int), 0), some (.int a, 0), some (.int t, 0), some (.int ns.length, 0), s5, s6, s7] := by
    rw [ev, evL, i2]
    simp [evL, pend, keepK, dsOf]
  have e3 : ev C (.cmp .eq (.ix (.bw 1) (.bw 2)) (.cst (.int 1))) [p, some (.tuple (ns.map .int), 0), some (.int a, 0), some (.int t, 0), some (.int ns.length, 0), s5, s6, s7] = .ok (.bool (x == 1), .own 0) [p, some (.tuple (ns.map .int), 0), some (.int a, 0), some (.int t, 0), some (.int ns.length, 0), s5, s6, s7] := by
    rw [ev, i2]
    simp [ev, pend, cmpD, shp_int, eqv_int, okB]
  have e4 : ev C (.bin .add (.ix (.bw 1) (.bw 2)) (.cst (.int 1))) [p, some (.tuple (ns.map .int), 0), some (.int a, 0), some (.int t, 0), some (.int ns.length, 0), s5, s6, s7] = .ok (.int (x + 1), .own 0) [p, some (.tuple (ns.map .int), 0), some (.int a, 0), some (.int t, 0), some (.int ns.length, 0), s5, s6, s7] := by
    rw [ev, i2]
    simp [ev, pend, itemsOk, binD, flagOf]
  have e5 : ev C (.bin .pow (.cst (.int 10)) (.cst (.int 29))) [p, some (.tuple (ns.map .int), 0), some (.int a, 0), some (.int t, 0), some (.int ns.length, 0), s5, s6, s7] = .ok (.int (10 ^ (29 : Int).toNat), .own 0) [p, some (.tuple (ns.map .int), 0), some (.int a, 0), some (.int t, 0), some (.int ns.length, 0), s5, s6, s7] := by
    rw [ev, ev]
    simp only [Out.bind_ok, ev, pend, itemsOk, Bool.and_self, if_pos, hp, flagOf]
  refine ⟨[.int y, .int ns.length, .int (-1), .none, .str (toString x), .tuple [.int x], .int (10 ^ (29 : Int).toNat), .bool true, .bool false, .bool (x == 1), .int (x + 1)], ?_, rfl, ?_⟩
  · rw [nearO, ev, evL, i3]
    simp only [Out.bind_ok]
    rw [evL, ev, rdVar]
    simp only [List.getElem?_cons_succ, List.getElem?_cons_zero, Out.bind_ok]
    rw [evL, ev, ev]
    simp only [Out.bind_ok]
    rw [evL, ev]
    simp only [Out.bind_ok]
    rw [evL, e1]
    simp only [Out.bind_ok]
    rw [evL, e2]
    simp only [Out.bind_ok]
    rw [evL, e5]
    simp only [Out.bind_ok]
    rw [evL, ev]
    simp only [Out.bind_ok]
    rw [evL, ev]
    simp only [Out.bind_ok]
    rw [evL, e3]
    simp only [Out.bind_ok]
    rw [evL, e4]
    simp [evL, pend, keepK, keepItem, dsOf]
  · intro v hv
    simp only [List.mem_cons, List.not_mem_nil, or_false] at hv
    rcases hv with h | h | h | h | h | h | h | h | h | h | h
    · rw [h]; exact ok8_int _
    · rw [h]; exact ok8_int _
    · rw [h]; exact ok8_int _
    · rw [h]; exact ⟨rfl, rfl⟩
    · rw [h]; exact o8
    · rw [h]; exact ok8_tup fun z q => ⟨x, by simpa using q⟩
    · rw [h]; exact ok8_int _
    · rw [h]; exact ⟨rfl, rfl⟩
    · rw [h]; exact ⟨rfl, rfl⟩
    · rw [h]; exact ⟨rfl, rfl⟩
    · rw [h]; exact ok8_int _
end QQ
namespace QQ
open PySem L2
def inc1 (x : D) : Option D := match x with
  | .int i => some (.int (i + 1))
  | _ => none
theorem near_r {C : Orc} {ns : List Int} {vs : List D} {p s2 s3 s4 s6 s7 : Sl} (hl : ns.length ≤ 10) (hv : vs.length ≤ 1000) (ho : ∀ v ∈ vs, okV v) : ∃ us : List D, ev C nearR [p, some (.tuple (ns.map .int), 0), s2, s3, s4, some (.list vs, 1), s6, s7] = .ok (.list us, .own 1) [p, some (.tuple (ns.map .int), 0), s2, s3, s4, some (.list vs, 1), s6, none] ∧ ∀ v ∈ us, okV v := by
  have r10 := range_len (m := 10) (by omega)
  have r11 := range_len (m := 11) (by omega)
  have r1 : ∀ {m : Nat} {en : En}, m ≤ 1000 → ev C (.rngl true (.cons (.cst (.int m)) .nil)) en = .ok (.tuple ((rangeI m).map .int), .own 0) en := fun {m en} h => by
    have := range_len (m := m) (by omega)
    rw [ev, evL, ev]
    simp only [Out.bind_ok, evL, pend, if_pos, dsOf, List.map_cons, List.map_nil]
    rw [this]
  have l := ev_lc (C := C) (k := 1) (own := [7]) (p := .nm 7) (it := .seq (.bw 1)) (ifs := .nil) (elt := .bin .add (.bw 7) (.cst (.int 1))) (en := [p, some (.tuple (ns.map .int), 0), s2, s3, s4, some (.list vs, 1), s6, s7]) (e1 := [p, some (.tuple (ns.map .int), 0), s2, s3, s4, some (.list vs, 1), s6, s7]) (e0 := [p, some (.tuple (ns.map .int), 0), s2, s3, s4, some (.list vs, 1), s6, none]) (xs := ns.map .int) (rts := []) inc1 (by simp [evI, ev, rdBw, itemsD, itemsOk, rootsOf]) rfl rfl (by rw [LIM_eq, List.length_map]; omega) (fun x hx => by
    obtain ⟨i, _, e⟩ := List.mem_map.mp hx
    subst e
    refine ⟨[p, some (.tuple (ns.map .int), 0), s2, s3, s4, some (.list vs, 1), s6, some (.int i, 0)], ?_, rfl⟩
    simp [lcT, bindP, evAnd1, ev, rdBw, pend, itemsOk, binD, flagOf, keepItem, keepK, lf, inc1])
  have hm : (ns.map PyData.int).filterMap inc1 = (ns.map (· + 1)).map .int := by
    clear l hl
    induction ns with
    | nil => rfl
    | cons n ns ih => simp [inc1] at ih ⊢; exact ih
  rw [hm] at l
  have ht : ev C (.bi .tuple (.cons (.lc 1 [7] (.nm 7) (.seq (.bw 1)) .nil (.bin .add (.bw 7) (.cst (.int 1)))) .nil)) [p, some (.tuple (ns.map .int), 0), s2, s3, s4, some (.list vs, 1), s6, s7] = .ok (.tuple ((ns.map (· + 1)).map .int), .own 0) [p, some (.tuple (ns.map .int), 0), s2, s3, s4, some (.list vs, 1), s6, none] := by
    rw [ev, evL, l]
    simp [evL, pend, itemsOk, biD, dsOf, tupC, flagOf]
  have hb : ev C (.lst 1 (.cons (.rngl true (.cons (.cst (.int 10)) .nil)) (.cons (.rngl true (.cons (.cst (.int 11)) .nil)) (.cons (.bi .tuple (.cons (.lc 1 [7] (.nm 7) (.seq (.bw 1)) .nil (.bin .add (.bw 7) (.cst (.int 1)))) .nil)) .nil)))) [p, some (.tuple (ns.map .int), 0), s2, s3, s4, some (.list vs, 1), s6, s7] = .ok (.list [.tuple ((rangeI 10).map .int), .tuple ((rangeI 11).map .int), .tuple ((ns.map (· + 1)).map .int)], .own 1) [p, some (.tuple (ns.map .int), 0), s2, s3, s4, some (.list vs, 1), s6, none] := by
    have q10 := r1 (m := 10) (en := [p, some (.tuple (ns.map .int), 0), s2, s3, s4, some (.list vs, 1), s6, s7]) (by omega)
    have q11 := r1 (m := 11) (en := [p, some (.tuple (ns.map .int), 0), s2, s3, s4, some (.list vs, 1), s6, s7]) (by omega)
    rw [ev, evL]
    erw [q10]
    simp only [Out.bind_ok]
    rw [evL]
    erw [q11]
    simp only [Out.bind_ok]
    rw [evL, ht]
    simp [evL, pend, keepK, keepItem, dsOf]
  have ha := add_lst vs [.tuple ((rangeI 10).map .int), .tuple ((rangeI 11).map .int), .tuple ((ns.map (· + 1)).map .int)] (by rw [LIM_eq]; simp; omega)
  refine ⟨vs ++ [.tuple ((rangeI 10).map .int), .tuple ((rangeI 11).map .int), .tuple ((ns.map (· + 1)).map .int)], ?_, fun v h => ?_⟩
  · rw [nearR, ev, ev, rdBw]
    simp only [List.getElem?_cons_succ, List.getElem?_cons_zero, Out.bind_ok]
    rw [hb]
    simp only [Out.bind_ok]
    rw [if_pos (by rfl), ha]
    simp only [flagOf]
  · have ot : ∀ ms : List Int, okV (.tuple (ms.map .int)) := fun ms => okV_tup fun x q => by
      obtain ⟨i, _, e⟩ := List.mem_map.mp q
      rw [← e]; exact ok8_int i
    rcases List.mem_append.mp h with q | q
    · exact ho v q
    · simp only [List.mem_cons, List.not_mem_nil, or_false] at q
      rcases q with q | q | q
      · rw [q]; exact ot _
      · rw [q]; exact ot _
      · rw [q]; exact ot _
theorem p23 (n : Nat) (ns : List Int) (a b c : Int) (h1 : 1 ≤ ns.length) (h2 : ns.length ≤ 10) (hb : ∀ i ∈ ns, 0 ≤ i ∧ i < 10) : ∃ (us : List D) (a' b' c' : Int), (orc PG 1 (n + 2)).fn 23 [pool a b c, .tuple (ns.map .int)] = .ret (.list us) 1 [pool a' b' c'] ∧ ∀ v ∈ us, okV v := by
  rw [orc_fn (F := f23) rfl, f23_eq]
  have hd := p15 n
  have hlen : ∀ {en : En}, en[1]? = some (some (.tuple (ns.map .int), 0)) → ev (orc PG 1 (n + 1)) (.bi .len (.cons (.bw 1) .nil)) en = .ok (.int ns.length, .own 0) en := fun {en} h => by
    have := ev_len0 (C := orc PG 1 (n + 1)) h
    rwa [List.length_map] at this
  obtain ⟨x, a1, b1, c1, q1, hx⟩ := ev_draw (f := 15) (i := 0) (e := .bi .len (.cons (.bw 1) .nil)) (en := [some (pool a b c, 1), some (.tuple (ns.map .int), 0), none, none, none, none, none, none]) hd rfl (hlen rfl) rfl (by omega)
  obtain ⟨y, a2, b2, c2, q2, hy⟩ := ev_draw (f := 15) (i := 0) (e := .bi .len (.cons (.bw 1) .nil)) (en := [some (pool a1 b1 c1, 1), some (.tuple (ns.map .int), 0), none, none, none, none, none, none]) hd rfl (hlen rfl) rfl (by omega)
  have s1 : ex (orc PG 1 (n + 1)) 1 nearP [some (pool a b c, 1), some (.tuple (ns.map .int), 0), none, none, none, none, none, none] = .ok .nx [some (pool a2 b2 c2, 1), some (.tuple (ns.map .int), 0), some (.int x, 0), some (.int y, 0), some (.int ns.length, 0), none, none, none] := by
    rw [nearP, ex, evL, q1]
    simp only [Out.bind_ok, List.set_cons_zero]
    rw [evL, q2]
    simp only [Out.bind_ok, List.set_cons_zero]
    rw [evL, hlen rfl]
    simp [evL, pend, ownK, asgNs, asgN, keepK, flagOf, opt]
  obtain ⟨vs, q3, hv3, ho3⟩ := near_l (C := orc PG 1 (n + 1)) (ns := ns) (m := ns.length) (p := some (pool a2 b2 c2, 1)) (s2 := some (.int x, 0)) (s3 := some (.int y, 0)) (s5 := none) (s6 := none) (s7 := none) h2
  have s2 : ex (orc PG 1 (n + 1)) 1 (.asg (.nm 5) nearL) [some (pool a2 b2 c2, 1), some (.tuple (ns.map .int), 0), some (.int x, 0), some (.int y, 0), some (.int ns.length, 0), none, none, none] = .ok .nx [some (pool a2 b2 c2, 1), some (.tuple (ns.map .int), 0), some (.int x, 0), some (.int y, 0), some (.int ns.length, 0), some (.list vs, 1), none, none] := (ex_asg q3 (by simp)).trans rfl
  obtain ⟨os, q4, hv4, ho4⟩ := near_o (C := orc PG 1 (n + 1)) (ns := ns) (a := x) (t := y) (p := some (pool a2 b2 c2, 1)) (s5 := some (.list vs, 1)) (s6 := none) (s7 := none) (by omega) (by omega) hb
  have hit : evI (orc PG 1 (n + 1)) (.seq nearO) [some (pool a2 b2 c2, 1), some (.tuple (ns.map .int), 0), some (.int x, 0), some (.int y, 0), some (.int ns.length, 0), some (.list vs, 1), none, none] = .ok (os, []) [some (pool a2 b2 c2, 1), some (.tuple (ns.map .int), 0), some (.int x, 0), some (.int y, 0), some (.int ns.length, 0), some (.list vs, 1), none, none] := by
    rw [evI, q4]
    simp [itemsD, itemsOk, rootsOf]
  have hl := forL_inv (f := fun d e => match bindP (.nm 6) d e with
        | some e' => exs (orc PG 1 (n + 1)) 1 nearB e'
        | none => .stuck) (fun ds e => (∀ d ∈ ds, ok8 d) ∧ ∃ (us : List D) (z : Sl), e = [some (pool a2 b2 c2, 1), some (.tuple (ns.map .int), 0), some (.int x, 0), some (.int y, 0), some (.int ns.length, 0), some (.list us, 1), z, none] ∧ us.length + ds.length ≤ 30 ∧ ∀ v ∈ us, okV v) os [some (pool a2 b2 c2, 1), some (.tuple (ns.map .int), 0), some (.int x, 0), some (.int y, 0), some (.int ns.length, 0), some (.list vs, 1), none, none] (fun d r e hI => by
    obtain ⟨hds, us, z, he, hle, hou⟩ := hI
    subst he
    have hd8 := hds d (List.mem_cons_self ..)
    have hle' : us.length + r.length + 1 ≤ 30 := by simp at hle; omega
    have cp := p17 n (ns.map .int) x d (by simp; omega) (by simp; omega)
    have ec : ev (orc PG 1 (n + 1)) (.call 17 [] (.cons (.bw 1) (.cons (.bw 2) (.cons (.bw 6) .nil))) []) [some (pool a2 b2 c2, 1), some (.tuple (ns.map .int), 0), some (.int x, 0), some (.int y, 0), some (.int ns.length, 0), some (.list us, 1), some (d, 0), none] = .ok (.tuple ((ns.map PyData.int).take x ++ [d] ++ (ns.map PyData.int).drop (x + 1)), .own 0) [some (pool a2 b2 c2, 1), some (.tuple (ns.map .int), 0), some (.int x, 0), some (.int y, 0), some (.int ns.length, 0), some (.list us, 1), some (d, 0), none] := by
      have c := call_own (bl := []) (co := (orc PG 1 (n + 1)).fn 17) (rs := [(.tuple (ns.map .int), .own 0), (.int x, .own 0), (d, .own 0)]) (en := [some (pool a2 b2 c2, 1), some (.tuple (ns.map .int), 0), some (.int x, 0), some (.int y, 0), some (.int ns.length, 0), some (.list us, 1), some (d, 0), none]) rfl cp
      rw [← c]
      simp [ev, evL, rdBw, pend, muL, muE, ioBl]
    have ea := ev_append (C := orc PG 1 (n + 1)) (i := 5) (xs := us) rfl (by rfl) ec rfl (by rw [LIM_eq]; omega)
    refine ⟨[some (pool a2 b2 c2, 1), some (.tuple (ns.map .int), 0), some (.int x, 0), some (.int y, 0), some (.int ns.length, 0), some (.list (us ++ [.tuple ((ns.map PyData.int).take x ++ [d] ++ (ns.map PyData.int).drop (x + 1))]), 1), some (d, 0), none], (exs_nx (ex_ex ea)).trans rfl, fun z hz => hds z (List.mem_cons_of_mem _ hz), _, _, rfl, by simp; omega, fun v hv => ?_⟩
    rcases List.mem_append.mp hv with q | q
    · exact hou v q
    · have e : v = .tuple ((ns.map PyData.int).take x ++ [d] ++ (ns.map PyData.int).drop (x + 1)) := by simpa using q
      rw [e]
      refine okV_tup fun w hw => ?_
      have h8 : ∀ w ∈ ns.map PyData.int, ok8 w := fun w q => by
        obtain ⟨i, _, e⟩ := List.mem_map.mp q
        rw [← e]; exact ok8_int i
      rcases List.mem_append.mp hw with q | q
      · rcases List.mem_append.mp q with q | q
        · exact h8 w (List.mem_of_mem_take q)
        · have : w = d := by simpa using q
          rw [this]; exact hd8
      · exact h8 w (List.mem_of_mem_drop q)) ⟨ho4, vs, none, rfl, by omega, ho3⟩
  obtain ⟨e', hl, _, us, z, he, hle, hou⟩ := hl
  subst he
  obtain ⟨ws, q5, hw⟩ := near_r (C := orc PG 1 (n + 1)) (ns := ns) (vs := us) (p := some (pool a2 b2 c2, 1)) (s2 := some (.int x, 0)) (s3 := some (.int y, 0)) (s4 := some (.int ns.length, 0)) (s6 := z) (s7 := none) h2 (by simp at hle; omega) hou
  refine ⟨ws, a2, b2, c2, run_of (e1 := [some (pool a2 b2 c2, 1), some (.tuple (ns.map .int), 0), some (.int x, 0), some (.int y, 0), some (.int ns.length, 0), some (.list us, 1), z, none]) rfl ?_ rfl, hw⟩
  exact (exs_nx s1).trans ((exs_nx s2).trans ((exs_nx ((ex_for hit rfl).trans hl)).trans (exs_rt (ex_ret q5))))
end QQ
namespace QQ
open PySem L2 PyProof.Rows
local macro_rules | `(tactic| walk_at "q1") => `(tactic| (first
  | with_reducible refine Chk.mk (by first | with_unfolding_all exact rfl | (simp [keepItem, keepK, ownK, itemsOk, pend, muE, muL, lf]; done)) ?_
  | with_reducible refine BoolP.mk ?_
  | with_reducible refine IntP.mk ?_
  | with_reducible refine FlagP.o0 ?_
  | with_reducible refine FlagP.l ?_
  | with_reducible refine FlagP.i ?_
  | with_reducible refine FlagP.t ?_
  | with_reducible refine FlagP.b ?_
  | with_reducible refine FlagP.s ?_
  | with_reducible refine SetP.z ?_
  | with_reducible refine SetP.s ?_
  | with_reducible refine WipeP.n ?_
  | with_reducible refine WipeP.c ?_
  | with_reducible refine FgP.i ?_
  | with_reducible refine FgP.b ?_
  | with_reducible refine FgP.t ?_
  | with_reducible refine FgP.l ?_
  | with_reducible refine FgP.s ?_
  | with_reducible refine FgP.any ?_
  | with_reducible refine KdP.o ?_
  | with_reducible refine KdP.l1 ?_
  | with_reducible refine KdP.lf (by with_unfolding_all exact rfl) ?_
  | with_reducible refine KeepP.o ?_
  | with_reducible refine KeepP.r (by with_unfolding_all exact rfl) ?_
  | with_reducible refine FlagP.r (by with_unfolding_all exact rfl) ?_
  | with_reducible refine PreP.mk (by with_unfolding_all exact rfl) (by assumption) (by with_unfolding_all exact rfl) ?_
  | with_reducible refine FlR.p ?_
  | with_reducible refine FlR.n ?_
  | with_reducible refine ItP.lo ?_
  | with_reducible refine ItP.to ?_
  | with_reducible refine ItP.lr ?_
  | with_reducible refine NsP.n ?_
  | with_reducible refine NsP.c ?_
  | with_reducible refine BindP.nm ?_
  | with_reducible refine BindP.tp ?_
  | with_reducible refine BindsP.n ?_
  | with_reducible refine BindsP.c ?_
  | with_reducible refine IfP.t ?_
  | with_reducible refine IfP.f ?_
  | with_reducible refine IfP.not ?_
  | with_reducible refine EP.cst ?_
  | with_reducible refine EP.bw0 (by with_unfolding_all exact rfl) ?_
  | with_reducible refine EP.bw1 (by with_unfolding_all exact rfl) ?_
  | with_reducible refine EP.bw2 (by with_unfolding_all exact rfl) ?_
  | with_reducible refine EP.var0 (by with_unfolding_all exact rfl) ?_
  | with_reducible refine EP.var1 (by with_unfolding_all exact rfl) ?_
  | with_reducible refine EP.mv (by with_unfolding_all exact rfl) ?_
  | with_reducible refine EP.gl (by with_unfolding_all exact rfl) ?_
  | with_reducible refine LP.cons ?_
  | with_reducible refine LP.nil ?_
  | with_reducible refine EP.call ?_
  | with_reducible refine EP.callk ?_
  | with_reducible refine EP.pool (by with_unfolding_all exact rfl) (by with_unfolding_all exact rfl) ?_
  | with_reducible refine EP.poolN ?_
  | with_reducible refine PreN.mk (by assumption) (by with_unfolding_all exact rfl) ?_
  | with_reducible refine EP.ix ?_
  | with_reducible refine EP.bi ?_
  | with_reducible refine EP.cmp ?_
  | with_reducible refine EP.bin ?_
  | with_reducible refine EP.tup ?_
  | with_reducible refine EP.lst ?_
  | with_reducible refine EP.not ?_
  | with_reducible refine EP.neg ?_
  | with_reducible refine EP.is0 ?_
  | with_reducible refine EP.is1 ?_
  | with_reducible refine EP.ch2 ?_
  | with_reducible refine EP.ch3 ?_
  | with_reducible refine EP.and ?_
  | with_reducible refine EP.or ?_
  | with_reducible refine AP.one ?_
  | with_reducible refine AP.cons ?_
  | with_reducible refine OP.one ?_
  | with_reducible refine OP.cons ?_
  | with_reducible refine EP.ite ?_
  | with_reducible refine EP.sl ?_
  | with_reducible refine EP.rev ?_
  | with_reducible refine EP.rngl ?_
  | with_reducible refine EP.rngt ?_
  | with_reducible refine EP.mt ?_
  | with_reducible refine EP.mu (by with_unfolding_all exact rfl) ?_
  | with_reducible refine EP.dic0 ?_
  | with_reducible refine EP.fnv ?_
  | with_reducible refine PP.none ?_
  | with_reducible refine PP.some ?_
  | with_reducible refine EP.lcG ?_
  | with_reducible refine TP.nil ?_
  | with_reducible refine TP.cons ?_
  | with_reducible refine IP.seq ?_
  | with_reducible refine IP.rng ?_
  | with_reducible refine IP.enum ?_
  | with_reducible refine IP.zip ?_
  | with_reducible refine OptP.add ?_
  | with_reducible refine OptP.sub ?_
  | with_reducible refine OptP.mul (by omega) ?_
  | with_reducible refine OptP.mod (by omega) ?_
  | with_reducible refine OptP.fdiv (by omega) ?_
  | with_reducible refine OptP.pow (by omega) (by with_unfolding_all decide) ?_
  | with_reducible refine OptP.cat (by simp only [List.length_append, List.length_map, List.length_cons, List.length_nil, List.length_singleton, List.length_reverse, List.length_take, List.length_drop, length_rangeI, List.length_replicate]; omega) ?_
  | with_reducible refine OptP.catl (by simp only [List.length_append, List.length_map, List.length_cons, List.length_nil, List.length_singleton, List.length_reverse, List.length_take, List.length_drop, length_rangeI, List.length_replicate]; omega) ?_
  | with_reducible refine OptP.len_tm ?_
  | with_reducible refine OptP.len_lm ?_
  | with_reducible refine OptP.len_t ?_
  | with_reducible refine OptP.len_l ?_
  | with_reducible refine OptP.int ?_
  | with_reducible refine OptP.abs ?_
  | with_reducible refine OptP.tup_l ?_
  | with_reducible refine OptP.tup_t ?_
  | with_reducible refine OptP.lst_l ?_
  | with_reducible refine OptP.lst_t ?_
  | with_reducible refine OptP.max2 ?_
  | with_reducible refine OptP.min2 ?_
  | with_reducible refine OptP.sum ?_
  | with_reducible refine OptP.all_m ?_
  | with_reducible refine OptP.any_m ?_
  | with_reducible refine OptP.all ?_
  | with_reducible refine OptP.any ?_
  | with_reducible refine OptP.srt ?_
  | with_reducible refine OptP.dm (by omega) ?_
  | with_reducible refine OptP.ix_tn (by first | assumption | omega | (simp only [List.length_append, List.length_map, List.length_cons, List.length_nil, length_rangeI, List.length_set, List.length_replicate]; omega)) ?_
  | with_reducible refine OptP.ix_ln (by first | assumption | omega | (simp only [List.length_append, List.length_map, List.length_cons, List.length_nil, length_rangeI, List.length_set, List.length_replicate]; omega)) ?_
  | with_reducible refine OptP.ix_rfl (by with_unfolding_all exact rfl) ?_
  | with_reducible refine OptP.sl_n (by simp only [List.length_append, List.length_map, List.length_cons, List.length_nil, List.length_singleton, List.length_reverse, List.length_take, List.length_drop, length_rangeI, List.length_replicate]; omega) ?_
  | with_reducible refine OptP.sl_m (by simp only [List.length_append, List.length_map, List.length_cons, List.length_nil, List.length_singleton, List.length_reverse, List.length_take, List.length_drop, length_rangeI, List.length_replicate]; omega) ?_
  | with_reducible refine OptP.sl_n1 (by simp only [List.length_append, List.length_map, List.length_cons, List.length_nil, List.length_singleton, List.length_reverse, List.length_take, List.length_drop, length_rangeI, List.length_replicate]; omega) ?_
  | with_reducible refine OptP.sl_m1 (by simp only [List.length_append, List.length_map, List.length_cons, List.length_nil, List.length_singleton, List.length_reverse, List.length_take, List.length_drop, length_rangeI, List.length_replicate]; omega) ?_
  | with_reducible refine OptP.sl_rfl (by with_unfolding_all exact rfl) ?_
  | with_reducible refine OptP.rev_t ?_
  | with_reducible refine OptP.rev_l ?_
  | with_reducible refine OptP.index_t (by assumption) ?_
  | with_reducible refine OptP.index_l (by assumption) ?_
  | with_reducible refine OptP.isi_i ?_
  | with_reducible refine OptP.isi_t ?_
  | with_reducible refine OptP.isi_rfl (by with_unfolding_all exact rfl) ?_
  | with_reducible refine OptB.lt ?_
  | with_reducible refine OptB.gt ?_
  | with_reducible refine OptB.le ?_
  | with_reducible refine OptB.ge ?_
  | with_reducible refine OptB.eq_int ?_
  | with_reducible refine OptB.ne_int ?_
  | with_reducible refine OptB.eq_bool ?_
  | with_reducible refine OptB.ne_bool ?_
  | with_reducible refine OptB.eq_tupI ?_
  | with_reducible refine OptB.ne_tupI ?_
  | with_reducible refine OptB.eq_lstI ?_
  | with_reducible refine OptB.ne_lstI ?_
  | with_reducible refine OptB.in_tupI ?_
  | with_reducible refine OptB.in_lstI ?_
  | with_reducible refine OptB.nin_tupI ?_
  | with_reducible refine OptB.nin_lstI ?_
  | with_reducible refine OptB.isT ?_
  | with_reducible refine OptB.isF ?_
  | with_reducible refine OptL.rng (by omega) ?_
  | with_reducible refine OptL.rng2 (by omega) (by omega) ?_
  | with_reducible refine SsP.cons ?_
  | with_reducible refine SsP.nil ?_
  | with_reducible refine SP.asg ?_
  | with_reducible refine SP.asgt ?_
  | with_reducible refine SP.par ?_
  | with_reducible refine SP.ret ?_
  | with_reducible refine SP.retN ?_
  | with_reducible refine SP.ex ?_
  | with_reducible refine SP.ite ?_
  | with_reducible refine SP.pass ?_
  | with_reducible refine SP.for ?_
  | with_reducible refine SP.set1 ?_
  | with_reducible refine SP.aug_int (by with_unfolding_all exact rfl) (by with_unfolding_all exact rfl) ?_))
local macro_rules | `(tactic| walk_at "q") => `(tactic| ((try dsimp only); repeat (first
  | with_reducible refine Chk.mk (by first | with_unfolding_all exact rfl | (simp [keepItem, keepK, ownK, itemsOk, pend, muE, muL, lf]; done)) ?_
  | with_reducible refine BoolP.mk ?_
  | with_reducible refine IntP.mk ?_
  | with_reducible refine FlagP.o0 ?_
  | with_reducible refine FlagP.l ?_
  | with_reducible refine FlagP.i ?_
  | with_reducible refine FlagP.t ?_
  | with_reducible refine FlagP.b ?_
  | with_reducible refine FlagP.s ?_
  | with_reducible refine SetP.z ?_
  | with_reducible refine SetP.s ?_
  | with_reducible refine WipeP.n ?_
  | with_reducible refine WipeP.c ?_
  | with_reducible refine FgP.i ?_
  | with_reducible refine FgP.b ?_
  | with_reducible refine FgP.t ?_
  | with_reducible refine FgP.l ?_
  | with_reducible refine FgP.s ?_
  | with_reducible refine FgP.any ?_
  | with_reducible refine KdP.o ?_
  | with_reducible refine KdP.l1 ?_
  | with_reducible refine KdP.lf (by with_unfolding_all exact rfl) ?_
  | with_reducible refine KeepP.o ?_
  | with_reducible refine KeepP.r (by with_unfolding_all exact rfl) ?_
  | with_reducible refine FlagP.r (by with_unfolding_all exact rfl) ?_
  | with_reducible refine PreP.mk (by with_unfolding_all exact rfl) (by assumption) (by with_unfolding_all exact rfl) ?_
  | with_reducible refine FlR.p ?_
  | with_reducible refine FlR.n ?_
  | with_reducible refine ItP.lo ?_
  | with_reducible refine ItP.to ?_
  | with_reducible refine ItP.lr ?_
  | with_reducible refine NsP.n ?_
  | with_reducible refine NsP.c ?_
  | with_reducible refine BindP.nm ?_
  | with_reducible refine BindP.tp ?_
  | with_reducible refine BindsP.n ?_
  | with_reducible refine BindsP.c ?_
  | with_reducible refine IfP.t ?_
  | with_reducible refine IfP.f ?_
  | with_reducible refine IfP.not ?_
  | with_reducible refine EP.cst ?_
  | with_reducible refine EP.bw0 (by with_unfolding_all exact rfl) ?_
  | with_reducible refine EP.bw1 (by with_unfolding_all exact rfl) ?_
  | with_reducible refine EP.bw2 (by with_unfolding_all exact rfl) ?_
  | with_reducible refine EP.var0 (by with_unfolding_all exact rfl) ?_
  | with_reducible refine EP.var1 (by with_unfolding_all exact rfl) ?_
  | with_reducible refine EP.mv (by with_unfolding_all exact rfl) ?_
  | with_reducible refine EP.gl (by with_unfolding_all exact rfl) ?_
  | with_reducible refine LP.cons ?_
  | with_reducible refine LP.nil ?_
  | with_reducible refine EP.call ?_
  | with_reducible refine EP.callk ?_
  | with_reducible refine EP.pool (by with_unfolding_all exact rfl) (by with_unfolding_all exact rfl) ?_
  | with_reducible refine EP.poolN ?_
  | with_reducible refine PreN.mk (by assumption) (by with_unfolding_all exact rfl) ?_
  | with_reducible refine EP.ix ?_
  | with_reducible refine EP.bi ?_
  | with_reducible refine EP.cmp ?_
  | with_reducible refine EP.bin ?_
  | with_reducible refine EP.tup ?_
  | with_reducible refine EP.lst ?_
  | with_reducible refine EP.not ?_
  | with_reducible refine EP.neg ?_
  | with_reducible refine EP.is0 ?_
  | with_reducible refine EP.is1 ?_
  | with_reducible refine EP.ch2 ?_
  | with_reducible refine EP.ch3 ?_
  | with_reducible refine EP.and ?_
  | with_reducible refine EP.or ?_
  | with_reducible refine AP.one ?_
  | with_reducible refine AP.cons ?_
  | with_reducible refine OP.one ?_
  | with_reducible refine OP.cons ?_
  | with_reducible refine EP.ite ?_
  | with_reducible refine EP.sl ?_
  | with_reducible refine EP.rev ?_
  | with_reducible refine EP.rngl ?_
  | with_reducible refine EP.rngt ?_
  | with_reducible refine EP.mt ?_
  | with_reducible refine EP.mu (by with_unfolding_all exact rfl) ?_
  | with_reducible refine EP.dic0 ?_
  | with_reducible refine EP.fnv ?_
  | with_reducible refine PP.none ?_
  | with_reducible refine PP.some ?_
  | with_reducible refine EP.lcG ?_
  | with_reducible refine TP.nil ?_
  | with_reducible refine TP.cons ?_
  | with_reducible refine IP.seq ?_
  | with_reducible refine IP.rng ?_
  | with_reducible refine IP.enum ?_
  | with_reducible refine IP.zip ?_
  | with_reducible refine OptP.add ?_
  | with_reducible refine OptP.sub ?_
  | with_reducible refine OptP.mul (by omega) ?_
  | with_reducible refine OptP.mod (by omega) ?_
  | with_reducible refine OptP.fdiv (by omega) ?_
  | with_reducible refine OptP.pow (by omega) (by with_unfolding_all decide) ?_
  | with_reducible refine OptP.cat (by simp only [List.length_append, List.length_map, List.length_cons, List.length_nil, List.length_singleton, List.length_reverse, List.length_take, List.length_drop, length_rangeI, List.length_replicate]; omega) ?_
  | with_reducible refine OptP.catl (by simp only [List.length_append, List.length_map, List.length_cons, List.length_nil, List.length_singleton, List.length_reverse, List.length_take, List.length_drop, length_rangeI, List.length_replicate]; omega) ?_
  | with_reducible refine OptP.len_tm ?_
  | with_reducible refine OptP.len_lm ?_
  | with_reducible refine OptP.len_t ?_
  | with_reducible refine OptP.len_l ?_
  | with_reducible refine OptP.int ?_
  | with_reducible refine OptP.abs ?_
  | with_reducible refine OptP.tup_l ?_
  | with_reducible refine OptP.tup_t ?_
  | with_reducible refine OptP.lst_l ?_
  | with_reducible refine OptP.lst_t ?_
  | with_reducible refine OptP.max2 ?_
  | with_reducible refine OptP.min2 ?_
  | with_reducible refine OptP.sum ?_
  | with_reducible refine OptP.all_m ?_
  | with_reducible refine OptP.any_m ?_
  | with_reducible refine OptP.all ?_
  | with_reducible refine OptP.any ?_
  | with_reducible refine OptP.srt ?_
  | with_reducible refine OptP.dm (by omega) ?_
  | with_reducible refine OptP.ix_tn (by first | assumption | omega | (simp only [List.length_append, List.length_map, List.length_cons, List.length_nil, length_rangeI, List.length_set, List.length_replicate]; omega)) ?_
  | with_reducible refine OptP.ix_ln (by first | assumption | omega | (simp only [List.length_append, List.length_map, List.length_cons, List.length_nil, length_rangeI, List.length_set, List.length_replicate]; omega)) ?_
  | with_reducible refine OptP.ix_rfl (by with_unfolding_all exact rfl) ?_
  | with_reducible refine OptP.sl_n (by simp only [List.length_append, List.length_map, List.length_cons, List.length_nil, List.length_singleton, List.length_reverse, List.length_take, List.length_drop, length_rangeI, List.length_replicate]; omega) ?_
  | with_reducible refine OptP.sl_m (by simp only [List.length_append, List.length_map, List.length_cons, List.length_nil, List.length_singleton, List.length_reverse, List.length_take, List.length_drop, length_rangeI, List.length_replicate]; omega) ?_
  | with_reducible refine OptP.sl_n1 (by simp only [List.length_append, List.length_map, List.length_cons, List.length_nil, List.length_singleton, List.length_reverse, List.length_take, List.length_drop, length_rangeI, List.length_replicate]; omega) ?_
  | with_reducible refine OptP.sl_m1 (by simp only [List.length_append, List.length_map, List.length_cons, List.length_nil, List.length_singleton, List.length_reverse, List.length_take, List.length_drop, length_rangeI, List.length_replicate]; omega) ?_
  | with_reducible refine OptP.sl_rfl (by with_unfolding_all exact rfl) ?_
  | with_reducible refine OptP.rev_t ?_
  | with_reducible refine OptP.rev_l ?_
  | with_reducible refine OptP.index_t (by assumption) ?_
  | with_reducible refine OptP.index_l (by assumption) ?_
  | with_reducible refine OptP.isi_i ?_
  | with_reducible refine OptP.isi_t ?_
  | with_reducible refine OptP.isi_rfl (by with_unfolding_all exact rfl) ?_
  | with_reducible refine OptB.lt ?_
  | with_reducible refine OptB.gt ?_
  | with_reducible refine OptB.le ?_
  | with_reducible refine OptB.ge ?_
  | with_reducible refine OptB.eq_int ?_
  | with_reducible refine OptB.ne_int ?_
  | with_reducible refine OptB.eq_bool ?_
  | with_reducible refine OptB.ne_bool ?_
  | with_reducible refine OptB.eq_tupI ?_
  | with_reducible refine OptB.ne_tupI ?_
  | with_reducible refine OptB.eq_lstI ?_
  | with_reducible refine OptB.ne_lstI ?_
  | with_reducible refine OptB.in_tupI ?_
  | with_reducible refine OptB.in_lstI ?_
  | with_reducible refine OptB.nin_tupI ?_
  | with_reducible refine OptB.nin_lstI ?_
  | with_reducible refine OptB.isT ?_
  | with_reducible refine OptB.isF ?_
  | with_reducible refine OptL.rng (by omega) ?_
  | with_reducible refine OptL.rng2 (by omega) (by omega) ?_
  | with_reducible refine SsP.cons ?_
  | with_reducible refine SsP.nil ?_
  | with_reducible refine SP.asg ?_
  | with_reducible refine SP.asgt ?_
  | with_reducible refine SP.par ?_
  | with_reducible refine SP.ret ?_
  | with_reducible refine SP.retN ?_
  | with_reducible refine SP.ex ?_
  | with_reducible refine SP.ite ?_
  | with_reducible refine SP.pass ?_
  | with_reducible refine SP.for ?_
  | with_reducible refine SP.set1 ?_
  | with_reducible refine SP.aug_int (by with_unfolding_all exact rfl) (by with_unfolding_all exact rfl) ?_)))
def IsPl (x : Sl) : Prop := ∃ p, x = some (p, 1) ∧ IsPool p
/-- both readings of a value -/
theorem both12 {n : Nat} {v : D} (h : okV v) : (orc PG 1 (n + 9)).fn 12 [v] = .ret (.bool (isOrd v)) 0 [] ∧ (orc PG 1 (n + 9)).fn 21 [v] = .ret (.bool (isOrd v)) 0 [] := ⟨p12 n v h.1, p21 (n + 7) v h.1 h.2⟩
theorem tells {n : Nat} {a : Bool} : (orc PG 1 (n + 1)).fn 18 [.bool a, .bool a] = .ret (.bool true) 0 [] := by
  rw [p18]; cases a <;> rfl
def okR (v : D) : Prop := nl v = true ∧ ∀ xs, v = .tuple xs → ∀ x ∈ xs, okV x
theorem okV_ints (ns : List Int) : okV (.tuple (ns.map .int)) := okV_tup fun x q => by
  obtain ⟨i, _, e⟩ := List.mem_map.mp q
  rw [← e]; exact ok8_int i
theorem okR_two {a b : D} (ha : okV a) (hb : okV b) : okR (.tuple [a, b]) := ⟨by simp [nl, nls, ha.1, hb.1], fun xs e x hx => by
  cases e
  simp at hx
  rcases hx with q | q
  · rw [q]; exact ha
  · rw [q]; exact hb⟩
theorem okR_tup {xs : List D} (h : ∀ x ∈ xs, okV x) : okR (.tuple xs) := ⟨by rw [nl]; exact nls_of fun x hx => (h x hx).1, fun ys e x hx => by cases e; exact h x hx⟩
theorem okR_of {v : D} (h : nl v = true) (ht : ∀ xs, v ≠ .tuple xs) : okR v := ⟨h, fun xs e => absurd e (ht xs)⟩
theorem PoolP.near {n i : Nat} {p : D} {ns : List Int} {e1 : En} {Q : D → Kd → En → Prop} {X : D → En → Prop} (hp : IsPool p) (h1 : 1 ≤ ns.length) (h2 : ns.length ≤ 10) (hb : ∀ i ∈ ns, 0 ≤ i ∧ i < 10) (q : ∀ (us : List D) p', IsPool p' → (∀ v ∈ us, okV v) → SetP e1 i (some (p', 1)) fun e => Q (.list us) (.own 1) e) : PoolP ((orc PG WFc (n + 2)).fn 23 [p, .tuple (ns.map .int)]) i e1 Q X := by
  obtain ⟨a, b, c, rfl⟩ := hp
  obtain ⟨us, a', b', c', h, h3⟩ := p23 n ns a b c h1 h2 hb
  exact PoolP.mk h (IsPool.full ⟨_, _, _, rfl⟩) (q us _ ⟨_, _, _, rfl⟩ h3)
theorem perm_bounds {ns : List Int} {m : Nat} (h : ns.Perm (rangeI m)) (h2 : m ≤ 10) : ns.length = m ∧ ∀ i ∈ ns, 0 ≤ i ∧ i < 10 := by
  refine ⟨by rw [h.length_eq, length_rangeI], fun i hi => ?_⟩
  have := mem_rangeI.mp (h.mem_iff.mp hi)
  omega
theorem p24 (n : Nat) {p : D} (hp : IsPool p) : KP ((orc PG WFc (n + 11)).fn 24 [p]) (fun d k ios => ∃ p', ios = [p'] ∧ IsPool p' ∧ d = .bool true ∧ k = 0) NoC := by
  refine kp__law_right ?_
  unfold b24
  walk_at "q"
  refine ForP.mk PyData.int [1, 2, 3, 5, 8, 10] (fun done rest e => (∀ i ∈ rest, 1 ≤ i ∧ i ≤ 10) ∧ ∃ p x1 x2 x3 x4, IsPool p ∧ e = [some (p, 1), x1, x2, x3, x4]) rfl rfl ⟨by decide, p, none, none, none, none, hp, rfl⟩ ?_ ?_
  · rintro done m rest e - ⟨hm, p, x1, x2, x3, x4, hp, rfl⟩
    have hmr := fun i hi => hm i (List.mem_cons_of_mem _ hi)
    have hm := hm m (List.mem_cons_self ..)
    obtain ⟨k, rfl⟩ := Int.eq_ofNat_of_zero_le (show 0 ≤ m by omega)
    walk_at "q"
    refine PoolP.race (p20 _) hp (by omega) (by omega) fun ns ms p1 hp1 hn hms => ?_
    obtain ⟨ln, bn⟩ := perm_bounds hn (by omega)
    obtain ⟨lm, bm⟩ := perm_bounds hms (by omega)
    walk_at "q"
    refine PoolP.near hp1 (by omega) (by omega) bn fun us p2 hp2 hus => ?_
    walk_at "q"
    refine ForP.sl (fun e => ∃ x3 x4, e = [some (p2, 1), some (.int k, 0), some (.tuple [.tuple (ns.map .int), .tuple (ms.map .int)], 0), x3, x4]) rfl ⟨_, _, rfl⟩ ?_ ?_
    · rintro v hv e ⟨x3, x4, rfl⟩
      have ov := hus v hv
      have o1 := okV_ints ns
      have o2 := okV_ints ms
      walk_at "q"
      refine CallP.eq (p12 _ v ov.1) ?_
      walk_at "q"
      refine CallP.eq (p21 _ v ov.1 ov.2) ?_
      walk_at "q"
      refine CallP.eq tells ?_
      walk_at "q"
      refine CallP.eq (p12 _ v ov.1) ?_
      walk_at "q"
      refine CallP.eq (p21 _ v ov.1 ov.2) ?_
      walk_at "q"
      refine CallP.eq tells ?_
      walk_at "q"
      refine ForP.mk id [.tuple [v, .tuple (ms.map .int)], .tuple [.tuple (ns.map .int), v], .tuple [v, v]] (fun done rest e => (∀ w ∈ rest, okR w) ∧ ∃ x4, e = [some (p2, 1), some (.int k, 0), some (.tuple [.tuple (ns.map .int), .tuple (ms.map .int)], 0), some (v, 0), x4]) rfl rfl ⟨?_, _, rfl⟩ ?_ ?_
      · intro w hw
        simp only [List.mem_cons, List.not_mem_nil, or_false] at hw
        rcases hw with q | q | q
        · rw [q]; exact okR_two ov o2
        · rw [q]; exact okR_two o1 ov
        · rw [q]; exact okR_two ov ov
      · rintro done w rest e - ⟨hw, x4, rfl⟩
        have ow := hw w (List.mem_cons_self ..)
        walk_at "q"
        refine CallP.eq (p13 _ w ow.1) ?_
        walk_at "q"
        refine CallP.eq (p22 _ w ow.1 ow.2) ?_
        walk_at "q"
        refine CallP.eq tells ?_
        walk_at "q"
        exact ⟨fun z hz => hw z (List.mem_cons_of_mem _ hz), _, rfl⟩
      · rintro e ⟨-, x4, rfl⟩
        walk_at "q"
        exact ⟨_, _, rfl⟩
    · rintro e ⟨x3, x4, rfl⟩
      have o1 := okV_ints ns
      have o2 := okV_ints ms
      have l1 := okV_of (v := .list (ns.map .int)) (by rw [nl]; exact nls_ints ns) fun _ => PyData.noConfusion
      have l2 := okV_of (v := .list (ms.map .int)) (by rw [nl]; exact nls_ints ms) fun _ => PyData.noConfusion
      walk_at "q"
      refine ForP.dat (fun done rest e => (∀ w ∈ rest, okR w) ∧ ∃ x3 x4, e = [some (p2, 1), some (.int k, 0), some (.tuple [.tuple (ns.map .int), .tuple (ms.map .int)], 0), x3, x4]) rfl ⟨?_, _, _, rfl⟩ ?_ ?_
      · intro w hw
        have nn := nls_ints ns
        have nm := nls_ints ms
        simp only [List.mem_cons, List.not_mem_nil, or_false] at hw
        rcases hw with h | h | h | h | h | h | h | h | h | h | h | h | h | h | h
        · rw [h]; exact okR_two o1 o2
        · rw [h]; exact okR_of (by simp [nl, nls, nn, nm]) fun _ => PyData.noConfusion
        · rw [h]; exact okR_tup fun x hx => by
            simp at hx
            rcases hx with q | q | q
            · rw [q]; exact o1
            · rw [q]; exact o2
            · rw [q]; exact o1
        · rw [h]; exact okR_tup fun x hx => by
            simp at hx
            rw [hx]; exact o1
        · rw [h]; exact okR_two o2 o1
        · rw [h]; exact okR_tup fun x hx => by
            simp at hx
            rw [hx]
            refine okV_tup fun y hy => ?_
            have ot : ∀ ls : List Int, ok8 (.tuple (ls.map .int)) := fun ls => ok8_tup fun z hz => by
              obtain ⟨i, _, e⟩ := List.mem_map.mp hz
              exact ⟨i, e.symm⟩
            simp at hy
            rcases hy with q | q
            · rw [q]; exact ot ns
            · rw [q]; exact ot ms
        · rw [h]; exact okR_tup fun x hx => by
            obtain ⟨i, _, e⟩ := List.mem_map.mp hx
            rw [← e]; exact okV_of rfl fun _ => PyData.noConfusion
        · rw [h]; exact okR_of rfl fun _ => PyData.noConfusion
        · rw [h]; exact okR_tup fun x hx => nomatch hx
        · rw [h]; exact okR_of rfl fun _ => PyData.noConfusion
        · rw [h]; exact okR_of rfl fun _ => PyData.noConfusion
        · rw [h]; exact okR_of rfl fun _ => PyData.noConfusion
        · rw [h]; exact okR_of rfl fun _ => PyData.noConfusion
        · rw [h]; exact okR_two o1 l2
        · rw [h]; exact okR_of (by simp [nl, nls, nn, nm]) fun _ => PyData.noConfusion
      · rintro done w rest e - ⟨hw, x3, x4, rfl⟩
        have ow := hw w (List.mem_cons_self ..)
        walk_at "q"
        refine CallP.eq (p13 _ w ow.1) ?_
        walk_at "q"
        refine CallP.eq (p22 _ w ow.1 ow.2) ?_
        walk_at "q"
        refine CallP.eq tells ?_
        walk_at "q"
        refine CallP.eq (p13 _ w ow.1) ?_
        walk_at "q"
        refine CallP.eq (p22 _ w ow.1 ow.2) ?_
        walk_at "q"
        refine CallP.eq tells ?_
        walk_at "q"
        exact ⟨fun z hz => hw z (List.mem_cons_of_mem _ hz), _, _, rfl⟩
      · rintro e ⟨-, x3, x4, rfl⟩
        walk_at "q"
        exact ⟨hmr, p2, _, _, _, _, hp2, rfl⟩
  · rintro e ⟨_, p, x1, x2, x3, x4, hp, rfl⟩
    walk_at "q"
    refine CallP.eq (p13 _ _ (by rfl)) ?_
    walk_at "q"
    rw [show isRace (.tuple [.tuple [.int 0], .tuple [.int 0]]) = true from rfl]
    walk_at "q"
    refine CallP.eq (p13 _ _ (by rfl)) ?_
    walk_at "q"
    rw [show isRace (.tuple [.tuple [.int 0, .int 1], .tuple [.int 0]]) = false from rfl]
    walk_at "q"
    refine CallP.eq (p12 _ _ (by rfl)) ?_
    walk_at "q"
    rw [show isOrd (.tuple []) = false from rfl]
    walk_at "q"
    refine CallP.eq (p12 _ _ (by rfl)) ?_
    walk_at "q"
    rw [show isOrd (.tuple [.int 0, .bool true]) = false from rfl]
    walk_at "q"
    exact ⟨p, rfl, hp, rfl, rfl⟩
theorem p25 (n : Nat) (ns : List Int) (hl : ns.length ≤ 63) : (orc PG WFc (n + 12)).fn 25 [scrD (ns.map .int)] = .ret (.bool true) 0 [] := by
  refine go_law ?_
  unfold b25
  walk_at "q"
  refine OptP.mk (d := .int ns.length) (by simp [biD, lenD, scrD]) ?_
  walk_at "q"
  refine ForP.mk PyData.int (rangeI _) (fun done rest e => (∀ i ∈ rest, 0 ≤ i) ∧ ∃ x1, e = [some (scrD (ns.map .int), 0), x1]) rfl rfl ⟨fun i hi => (mem_rangeI.mp hi).1, _, rfl⟩ ?_ ?_
  · rintro done m rest e - ⟨hm, x1, rfl⟩
    have h0 := hm m (List.mem_cons_self ..)
    obtain ⟨k, rfl⟩ := Int.eq_ofNat_of_zero_le h0
    walk_at "q"
    obtain ⟨a, b, q⟩ := p14 (n + 10) ns k
    have hp : IsPool (pool a b 0) := ⟨a, b, 0, rfl⟩
    refine CallP.eq q ?_
    walk_at "q"
    refine NewP.of (p24 n hp) fun d k h => ?_
    obtain ⟨rfl, rfl⟩ := h
    walk_at "q"
    exact ⟨fun i hi => hm i (List.mem_cons_of_mem _ hi), _, rfl⟩
  · rintro e ⟨-, x1, rfl⟩
    walk_at "q"
    exact ⟨rfl, rfl⟩
end QQ
namespace QQ
open PySem L2 PyProof.Rows
theorem law_true : ∀ ns : List Int, ns.length ≤ 63 → runD (orc (prgOf tb) 1 11) 1 d25.F [scrD (ns.map .int)] = .ret (.bool true) 0 [] := fun ns h => by
  have := p25 0 ns h
  rw [orc_fn (F := f25) rfl] at this
  exact this
end QQ
namespace QQ
open PySem L2 PyProof.Rows PySem.W
theorem chk_all : tb.fs.all (DE.chk tb) = true := by decide +kernel
theorem all_mk {w : World} {K : PySem.W.Frag} {h : Heap} {mg : Str → Option Value} {fa : Addr} (X : K.In h) (G : h.Ns mainGlobals mg) (hfa : mg "law" = some (.ref fa)) (own : OwnTabs PySem.Challenge.pw_passedpairs_k06_whole_orders_and_races_o K mg h) (r9 : ((recsOf PySem.Challenge.pw_passedpairs_k06_whole_orders_and_races_o).any fun e => e.name == ("is_order_for" : Str)) = true)
    {f0 : Addr} {od0 an0 : Option Addr} {sl0 : Array (Option Value)} {oc0 kV0 dc0 pm0 ct0 : Value} {cd0 : Value}
    {f1 : Addr} {od1 an1 : Option Addr} {sl1 : Array (Option Value)} {oc1 kV1 dc1 pm1 ct1 : Value} {cd1 : Value}
    {f2 : Addr} {od2 an2 : Option Addr} {sl2 : Array (Option Value)} {oc2 kV2 dc2 pm2 ct2 : Value} {cd2 : Value}
    {f3 : Addr} {od3 an3 : Option Addr} {sl3 : Array (Option Value)} {oc3 kV3 dc3 pm3 ct3 : Value} {cd3 : Value}
    {f4 : Addr} {od4 an4 : Option Addr} {sl4 : Array (Option Value)} {oc4 kV4 dc4 pm4 ct4 : Value} {cd4 : Value}
    {f5 : Addr} {od5 an5 : Option Addr} {sl5 : Array (Option Value)} {oc5 kV5 dc5 pm5 ct5 : Value} {cd5 : Value}
    {f6 : Addr} {od6 an6 : Option Addr} {sl6 : Array (Option Value)} {oc6 kV6 dc6 pm6 ct6 : Value} {cd6 : Value}
    {f7 : Addr} {od7 an7 : Option Addr} {sl7 : Array (Option Value)} {oc7 kV7 dc7 pm7 ct7 : Value} {cd7 : Value}
    {f8 : Addr} {od8 an8 : Option Addr} {sl8 : Array (Option Value)} {oc8 kV8 dc8 pm8 ct8 : Value} {cd8 : Value}
    {f9 : Addr} {od9 an9 : Option Addr} {sl9 : Array (Option Value)} {oc9 kV9 dc9 pm9 ct9 : Value}
    {cc9 PP9 : Addr} {ee9 : Value} {dd9 : Option Addr} {vv9 : Array Value} {ss9 : Array (Option Value)}
    {f10 : Addr} {od10 an10 : Option Addr} {sl10 : Array (Option Value)} {oc10 kV10 dc10 pm10 ct10 : Value} {cd10 : Value}
    {f11 : Addr} {od11 an11 : Option Addr} {sl11 : Array (Option Value)} {oc11 kV11 dc11 pm11 ct11 : Value} {cd11 : Value}
    {f12 : Addr} {od12 an12 : Option Addr} {sl12 : Array (Option Value)} {oc12 kV12 dc12 pm12 ct12 : Value} {cd12 : Value}
    {f13 : Addr} {od13 an13 : Option Addr} {sl13 : Array (Option Value)} {oc13 kV13 dc13 pm13 ct13 : Value} {cd13 : Value}
    {f14 : Addr} {od14 an14 : Option Addr} {sl14 : Array (Option Value)} {oc14 kV14 dc14 pm14 ct14 : Value} {cd14 : Value}
    {f15 : Addr} {od15 an15 : Option Addr} {sl15 : Array (Option Value)} {oc15 kV15 dc15 pm15 ct15 : Value} {cd15 : Value}
    {f16 : Addr} {od16 an16 : Option Addr} {sl16 : Array (Option Value)} {oc16 kV16 dc16 pm16 ct16 : Value} {cd16 : Value}
    {f17 : Addr} {od17 an17 : Option Addr} {sl17 : Array (Option Value)} {oc17 kV17 dc17 pm17 ct17 : Value} {cd17 : Value}
    {f18 : Addr} {od18 an18 : Option Addr} {sl18 : Array (Option Value)} {oc18 kV18 dc18 pm18 ct18 : Value} {cd18 : Value}
    {f19 : Addr} {od19 an19 : Option Addr} {sl19 : Array (Option Value)} {oc19 kV19 dc19 pm19 ct19 : Value} {cd19 : Value}
    {f20 : Addr} {od20 an20 : Option Addr} {sl20 : Array (Option Value)} {oc20 kV20 dc20 pm20 ct20 : Value} {cd20 : Value}
    {f21 : Addr} {od21 an21 : Option Addr} {sl21 : Array (Option Value)} {oc21 kV21 dc21 pm21 ct21 : Value} {cd21 : Value}
    {f22 : Addr} {od22 an22 : Option Addr} {sl22 : Array (Option Value)} {oc22 kV22 dc22 pm22 ct22 : Value} {cd22 : Value}
    {f23 : Addr} {od23 an23 : Option Addr} {sl23 : Array (Option Value)} {oc23 kV23 dc23 pm23 ct23 : Value} {cd23 : Value}
    {f24 : Addr} {od24 an24 : Option Addr} {sl24 : Array (Option Value)} {oc24 kV24 dc24 pm24 ct24 : Value} {cd24 : Value}
    {f25 : Addr} {od25 an25 : Option Addr} {sl25 : Array (Option Value)} {oc25 kV25 dc25 pm25 ct25 : Value} {cd25 : Value}
    {t0 : Tok}
    (a0 : PySem.W.nsIn K mainGlobals "is_whole" = some (some (.ref f0)))
    (l0 : K.lookup f0 = some ⟨oc0, od0, .func (PySem.W.fnOf "is_whole" "is_whole" (defArgs s0) (defBody s0) (defScope s0) .none kV0 dc0 pm0 an0 cd0 ct0), sl0⟩)
    (c0 : PySem.W.codeIn K cd0 "is_whole" = true)
    (k0 : PySem.W.keepIn K (.ref f0) = true)
    (a1 : PySem.W.nsIn K mainGlobals "is_between" = some (some (.ref f1)))
    (l1 : K.lookup f1 = some ⟨oc1, od1, .func (PySem.W.fnOf "is_between" "is_between" (defArgs s1) (defBody s1) (defScope s1) .none kV1 dc1 pm1 an1 cd1 ct1), sl1⟩)
    (c1 : PySem.W.codeIn K cd1 "is_between" = true)
    (k1 : PySem.W.keepIn K (.ref f1) = true)
    (a2 : PySem.W.nsIn K mainGlobals "is_up_to" = some (some (.ref f2)))
    (l2 : K.lookup f2 = some ⟨oc2, od2, .func (PySem.W.fnOf "is_up_to" "is_up_to" (defArgs s2) (defBody s2) (defScope s2) .none kV2 dc2 pm2 an2 cd2 ct2), sl2⟩)
    (c2 : PySem.W.codeIn K cd2 "is_up_to" = true)
    (k2 : PySem.W.keepIn K (.ref f2) = true)
    (a3 : PySem.W.nsIn K mainGlobals "is_tuple_up_to" = some (some (.ref f3)))
    (l3 : K.lookup f3 = some ⟨oc3, od3, .func (PySem.W.fnOf "is_tuple_up_to" "is_tuple_up_to" (defArgs s3) (defBody s3) (defScope s3) .none kV3 dc3 pm3 an3 cd3 ct3), sl3⟩)
    (c3 : PySem.W.codeIn K cd3 "is_tuple_up_to" = true)
    (k3 : PySem.W.keepIn K (.ref f3) = true)
    (a4 : PySem.W.nsIn K mainGlobals "is_tuple_of" = some (some (.ref f4)))
    (l4 : K.lookup f4 = some ⟨oc4, od4, .func (PySem.W.fnOf "is_tuple_of" "is_tuple_of" (defArgs s4) (defBody s4) (defScope s4) .none kV4 dc4 pm4 an4 cd4 ct4), sl4⟩)
    (c4 : PySem.W.codeIn K cd4 "is_tuple_of" = true)
    (k4 : PySem.W.keepIn K (.ref f4) = true)
    (a5 : PySem.W.nsIn K mainGlobals "is_pair" = some (some (.ref f5)))
    (l5 : K.lookup f5 = some ⟨oc5, od5, .func (PySem.W.fnOf "is_pair" "is_pair" (defArgs s5) (defBody s5) (defScope s5) .none kV5 dc5 pm5 an5 cd5 ct5), sl5⟩)
    (c5 : PySem.W.codeIn K cd5 "is_pair" = true)
    (k5 : PySem.W.keepIn K (.ref f5) = true)
    (a6 : PySem.W.nsIn K mainGlobals "are_all" = some (some (.ref f6)))
    (l6 : K.lookup f6 = some ⟨oc6, od6, .func (PySem.W.fnOf "are_all" "are_all" (defArgs s6) (defBody s6) (defScope s6) .none kV6 dc6 pm6 an6 cd6 ct6), sl6⟩)
    (c6 : PySem.W.codeIn K cd6 "are_all" = true)
    (k6 : PySem.W.keepIn K (.ref f6) = true)
    (a7 : PySem.W.nsIn K mainGlobals "are_unlike" = some (some (.ref f7)))
    (l7 : K.lookup f7 = some ⟨oc7, od7, .func (PySem.W.fnOf "are_unlike" "are_unlike" (defArgs s7) (defBody s7) (defScope s7) .none kV7 dc7 pm7 an7 cd7 ct7), sl7⟩)
    (c7 : PySem.W.codeIn K cd7 "are_unlike" = true)
    (k7 : PySem.W.keepIn K (.ref f7) = true)
    (a8 : PySem.W.nsIn K mainGlobals "is_runner_of" = some (some (.ref f8)))
    (l8 : K.lookup f8 = some ⟨oc8, od8, .func (PySem.W.fnOf "is_runner_of" "is_runner_of" (defArgs s8) (defBody s8) (defScope s8) .none kV8 dc8 pm8 an8 cd8 ct8), sl8⟩)
    (c8 : PySem.W.codeIn K cd8 "is_runner_of" = true)
    (k8 : PySem.W.keepIn K (.ref f8) = true)
    (a9 : PySem.W.nsIn K mainGlobals "is_order_for" = some (some (.ref f9)))
    (l9 : K.lookup f9 = some ⟨oc9, od9, .func (PySem.W.fnOf "is_order_for" "is_order_for" (defArgs s9) (defBody s9) (defScope s9) .none kV9 dc9 pm9 an9 (.ref cc9) ct9), sl9⟩)
    (c9 : PySem.W.codeIn K (.ref cc9) "is_order_for" = true)
    (k9 : PySem.W.keepIn K (.ref f9) = true)
    (p9 : K.lookup cc9 = some ⟨ee9, dd9, .fields vv9, ss9⟩)
    (q9 : vv9[11]? = some (.ref PP9))
    (h9 : PySem.W.codeHdIn K cc9 PP9 = true)
    (n9 : K.lookup PP9 = none)
    (a10 : PySem.W.nsIn K mainGlobals "is_order_of" = some (some (.ref f10)))
    (l10 : K.lookup f10 = some ⟨oc10, od10, .func (PySem.W.fnOf "is_order_of" "is_order_of" (defArgs s10) (defBody s10) (defScope s10) .none kV10 dc10 pm10 an10 cd10 ct10), sl10⟩)
    (c10 : PySem.W.codeIn K cd10 "is_order_of" = true)
    (k10 : PySem.W.keepIn K (.ref f10) = true)
    (a11 : PySem.W.nsIn K mainGlobals "is_race_of" = some (some (.ref f11)))
    (l11 : K.lookup f11 = some ⟨oc11, od11, .func (PySem.W.fnOf "is_race_of" "is_race_of" (defArgs s11) (defBody s11) (defScope s11) .none kV11 dc11 pm11 an11 cd11 ct11), sl11⟩)
    (c11 : PySem.W.codeIn K cd11 "is_race_of" = true)
    (k11 : PySem.W.keepIn K (.ref f11) = true)
    (a12 : PySem.W.nsIn K mainGlobals "is_order" = some (some (.ref f12)))
    (l12 : K.lookup f12 = some ⟨oc12, od12, .func (PySem.W.fnOf "is_order" "is_order" (defArgs s12) (defBody s12) (defScope s12) .none kV12 dc12 pm12 an12 cd12 ct12), sl12⟩)
    (c12 : PySem.W.codeIn K cd12 "is_order" = true)
    (k12 : PySem.W.keepIn K (.ref f12) = true)
    (a13 : PySem.W.nsIn K mainGlobals "is_race" = some (some (.ref f13)))
    (l13 : K.lookup f13 = some ⟨oc13, od13, .func (PySem.W.fnOf "is_race" "is_race" (defArgs s13) (defBody s13) (defScope s13) .none kV13 dc13 pm13 an13 cd13 ct13), sl13⟩)
    (c13 : PySem.W.codeIn K cd13 "is_race" = true)
    (k13 : PySem.W.keepIn K (.ref f13) = true)
    (a14 : PySem.W.nsIn K mainGlobals "_law_pool" = some (some (.ref f14)))
    (l14 : K.lookup f14 = some ⟨oc14, od14, .func (PySem.W.fnOf "_law_pool" "_law_pool" (defArgs s14) (defBody s14) (defScope s14) .none kV14 dc14 pm14 an14 cd14 ct14), sl14⟩)
    (c14 : PySem.W.codeIn K cd14 "_law_pool" = true)
    (k14 : PySem.W.keepIn K (.ref f14) = true)
    (a15 : PySem.W.nsIn K mainGlobals "_law_draw" = some (some (.ref f15)))
    (l15 : K.lookup f15 = some ⟨oc15, od15, .func (PySem.W.fnOf "_law_draw" "_law_draw" (defArgs s15) (defBody s15) (defScope s15) .none kV15 dc15 pm15 an15 cd15 ct15), sl15⟩)
    (c15 : PySem.W.codeIn K cd15 "_law_draw" = true)
    (k15 : PySem.W.keepIn K (.ref f15) = true)
    (a16 : PySem.W.nsIn K mainGlobals "_law_is_whole" = some (some (.ref f16)))
    (l16 : K.lookup f16 = some ⟨oc16, od16, .func (PySem.W.fnOf "_law_is_whole" "_law_is_whole" (defArgs s16) (defBody s16) (defScope s16) .none kV16 dc16 pm16 an16 cd16 ct16), sl16⟩)
    (c16 : PySem.W.codeIn K cd16 "_law_is_whole" = true)
    (k16 : PySem.W.keepIn K (.ref f16) = true)
    (a17 : PySem.W.nsIn K mainGlobals "_law_put" = some (some (.ref f17)))
    (l17 : K.lookup f17 = some ⟨oc17, od17, .func (PySem.W.fnOf "_law_put" "_law_put" (defArgs s17) (defBody s17) (defScope s17) .none kV17 dc17 pm17 an17 cd17 ct17), sl17⟩)
    (c17 : PySem.W.codeIn K cd17 "_law_put" = true)
    (k17 : PySem.W.keepIn K (.ref f17) = true)
    (a18 : PySem.W.nsIn K mainGlobals "_law_tells" = some (some (.ref f18)))
    (l18 : K.lookup f18 = some ⟨oc18, od18, .func (PySem.W.fnOf "_law_tells" "_law_tells" (defArgs s18) (defBody s18) (defScope s18) .none kV18 dc18 pm18 an18 cd18 ct18), sl18⟩)
    (c18 : PySem.W.codeIn K cd18 "_law_tells" = true)
    (k18 : PySem.W.keepIn K (.ref f18) = true)
    (a19 : PySem.W.nsIn K mainGlobals "_law_order" = some (some (.ref f19)))
    (l19 : K.lookup f19 = some ⟨oc19, od19, .func (PySem.W.fnOf "_law_order" "_law_order" (defArgs s19) (defBody s19) (defScope s19) .none kV19 dc19 pm19 an19 cd19 ct19), sl19⟩)
    (c19 : PySem.W.codeIn K cd19 "_law_order" = true)
    (k19 : PySem.W.keepIn K (.ref f19) = true)
    (a20 : PySem.W.nsIn K mainGlobals "_law_race" = some (some (.ref f20)))
    (l20 : K.lookup f20 = some ⟨oc20, od20, .func (PySem.W.fnOf "_law_race" "_law_race" (defArgs s20) (defBody s20) (defScope s20) .none kV20 dc20 pm20 an20 cd20 ct20), sl20⟩)
    (c20 : PySem.W.codeIn K cd20 "_law_race" = true)
    (k20 : PySem.W.keepIn K (.ref f20) = true)
    (a21 : PySem.W.nsIn K mainGlobals "_law_is_order" = some (some (.ref f21)))
    (l21 : K.lookup f21 = some ⟨oc21, od21, .func (PySem.W.fnOf "_law_is_order" "_law_is_order" (defArgs s21) (defBody s21) (defScope s21) .none kV21 dc21 pm21 an21 cd21 ct21), sl21⟩)
    (c21 : PySem.W.codeIn K cd21 "_law_is_order" = true)
    (k21 : PySem.W.keepIn K (.ref f21) = true)
    (a22 : PySem.W.nsIn K mainGlobals "_law_is_race" = some (some (.ref f22)))
    (l22 : K.lookup f22 = some ⟨oc22, od22, .func (PySem.W.fnOf "_law_is_race" "_law_is_race" (defArgs s22) (defBody s22) (defScope s22) .none kV22 dc22 pm22 an22 cd22 ct22), sl22⟩)
    (c22 : PySem.W.codeIn K cd22 "_law_is_race" = true)
    (k22 : PySem.W.keepIn K (.ref f22) = true)
    (a23 : PySem.W.nsIn K mainGlobals "_law_near" = some (some (.ref f23)))
    (l23 : K.lookup f23 = some ⟨oc23, od23, .func (PySem.W.fnOf "_law_near" "_law_near" (defArgs s23) (defBody s23) (defScope s23) .none kV23 dc23 pm23 an23 cd23 ct23), sl23⟩)
    (c23 : PySem.W.codeIn K cd23 "_law_near" = true)
    (k23 : PySem.W.keepIn K (.ref f23) = true)
    (a24 : PySem.W.nsIn K mainGlobals "_law_right" = some (some (.ref f24)))
    (l24 : K.lookup f24 = some ⟨oc24, od24, .func (PySem.W.fnOf "_law_right" "_law_right" (defArgs s24) (defBody s24) (defScope s24) .none kV24 dc24 pm24 an24 cd24 ct24), sl24⟩)
    (c24 : PySem.W.codeIn K cd24 "_law_right" = true)
    (k24 : PySem.W.keepIn K (.ref f24) = true)
    (a25 : PySem.W.nsIn K mainGlobals "law" = some (some (.ref f25)))
    (l25 : K.lookup f25 = some ⟨oc25, od25, .func (PySem.W.fnOf "law" "law" (defArgs s25) (defBody s25) (defScope s25) .none kV25 dc25 pm25 an25 cd25 ct25), sl25⟩)
    (c25 : PySem.W.codeIn K cd25 "law" = true)
    (k25 : PySem.W.keepIn K (.ref f25) = true)
    (gc0 : PySem.W.nsIn K mainGlobals "MOST_RUNNERS" = some (some (.int 10 t0)))
    (z0 : PySem.W.nsIn K mainGlobals "len" = some none)
    (z1 : PySem.W.nsIn K mainGlobals "int" = some none)
    (z2 : PySem.W.nsIn K mainGlobals "abs" = some none)
    (z3 : PySem.W.nsIn K mainGlobals "max" = some none)
    (z4 : PySem.W.nsIn K mainGlobals "min" = some none)
    (z5 : PySem.W.nsIn K mainGlobals "sum" = some none)
    (z6 : PySem.W.nsIn K mainGlobals "any" = some none)
    (z7 : PySem.W.nsIn K mainGlobals "all" = some none)
    (z8 : PySem.W.nsIn K mainGlobals "tuple" = some none)
    (z9 : PySem.W.nsIn K mainGlobals "list" = some none)
    (z10 : PySem.W.nsIn K mainGlobals "sorted" = some none)
    (z11 : PySem.W.nsIn K mainGlobals "divmod" = some none)
    (z12 : PySem.W.nsIn K mainGlobals "str" = some none)
    (z13 : PySem.W.nsIn K mainGlobals "isinstance" = some none)
    (z14 : PySem.W.nsIn K mainGlobals "bool" = some none)
    (z15 : PySem.W.nsIn K mainGlobals "dict" = some none)
    (z16 : PySem.W.nsIn K mainGlobals "range" = some none)
    (z17 : PySem.W.nsIn K mainGlobals "enumerate" = some none)
    (z18 : PySem.W.nsIn K mainGlobals "zip" = some none) :
    LamX.LawAtS PySem.Challenge.rw_passedpairs_k06_whole_orders_and_races_o w K (L2.CX PySem.Challenge.rw_passedpairs_k06_whole_orders_and_races_o.prog w) 12 63 "script" mg fa h := by
  have e := hfa.symm.trans (PySem.W.mg_of X G a25)
  cases e
  have F0 := fun_mk (st := s0) l0 c0 k0
  have b0 := F0.binds (ps := d0.ps) fun _ _ _ _ _ _ us hl => match us, hl with | [_], _ => rfl
  have e0 : KbOk K (PySem.W.fnOf "is_whole" "is_whole" (defArgs s0) (defBody s0) (defScope s0) .none kV0 dc0 pm0 an0 cd0 ct0) d0.ps d0.kb := ⟨fun t ht => nomatch ht⟩
  have m0 := PySem.W.mg_of X G a0
  have F1 := fun_mk (st := s1) l1 c1 k1
  have b1 := F1.binds (ps := d1.ps) fun _ _ _ _ _ _ us hl => match us, hl with | [_, _, _], _ => rfl
  have e1 : KbOk K (PySem.W.fnOf "is_between" "is_between" (defArgs s1) (defBody s1) (defScope s1) .none kV1 dc1 pm1 an1 cd1 ct1) d1.ps d1.kb := ⟨fun t ht => nomatch ht⟩
  have m1 := PySem.W.mg_of X G a1
  have F2 := fun_mk (st := s2) l2 c2 k2
  have b2 := F2.binds (ps := d2.ps) fun _ _ _ _ _ _ us hl => match us, hl with | [_, _], _ => rfl
  have e2 : KbOk K (PySem.W.fnOf "is_up_to" "is_up_to" (defArgs s2) (defBody s2) (defScope s2) .none kV2 dc2 pm2 an2 cd2 ct2) d2.ps d2.kb := ⟨fun t ht => nomatch ht⟩
  have m2 := PySem.W.mg_of X G a2
  have F3 := fun_mk (st := s3) l3 c3 k3
  have b3 := F3.binds (ps := d3.ps) fun _ _ _ _ _ _ us hl => match us, hl with | [_, _, _], _ => rfl
  have e3 : KbOk K (PySem.W.fnOf "is_tuple_up_to" "is_tuple_up_to" (defArgs s3) (defBody s3) (defScope s3) .none kV3 dc3 pm3 an3 cd3 ct3) d3.ps d3.kb := ⟨fun t ht => nomatch ht⟩
  have m3 := PySem.W.mg_of X G a3
  have F4 := fun_mk (st := s4) l4 c4 k4
  have b4 := F4.binds (ps := d4.ps) fun _ _ _ _ _ _ us hl => match us, hl with | [_, _], _ => rfl
  have e4 : KbOk K (PySem.W.fnOf "is_tuple_of" "is_tuple_of" (defArgs s4) (defBody s4) (defScope s4) .none kV4 dc4 pm4 an4 cd4 ct4) d4.ps d4.kb := ⟨fun t ht => nomatch ht⟩
  have m4 := PySem.W.mg_of X G a4
  have F5 := fun_mk (st := s5) l5 c5 k5
  have b5 := F5.binds (ps := d5.ps) fun _ _ _ _ _ _ us hl => match us, hl with | [_], _ => rfl
  have e5 : KbOk K (PySem.W.fnOf "is_pair" "is_pair" (defArgs s5) (defBody s5) (defScope s5) .none kV5 dc5 pm5 an5 cd5 ct5) d5.ps d5.kb := ⟨fun t ht => nomatch ht⟩
  have m5 := PySem.W.mg_of X G a5
  have F6 := fun_mk (st := s6) l6 c6 k6
  have b6 := F6.binds (ps := d6.ps) fun _ _ _ _ _ _ us hl => match us, hl with | [_, _, _], _ => rfl
  have e6 : KbOk K (PySem.W.fnOf "are_all" "are_all" (defArgs s6) (defBody s6) (defScope s6) .none kV6 dc6 pm6 an6 cd6 ct6) d6.ps d6.kb := ⟨fun t ht => nomatch ht⟩
  have m6 := PySem.W.mg_of X G a6
  have F7 := fun_mk (st := s7) l7 c7 k7
  have b7 := F7.binds (ps := d7.ps) fun _ _ _ _ _ _ us hl => match us, hl with | [_], _ => rfl
  have e7 : KbOk K (PySem.W.fnOf "are_unlike" "are_unlike" (defArgs s7) (defBody s7) (defScope s7) .none kV7 dc7 pm7 an7 cd7 ct7) d7.ps d7.kb := ⟨fun t ht => nomatch ht⟩
  have m7 := PySem.W.mg_of X G a7
  have F8 := fun_mk (st := s8) l8 c8 k8
  have b8 := F8.binds (ps := d8.ps) fun _ _ _ _ _ _ us hl => match us, hl with | [_, _], _ => rfl
  have e8 : KbOk K (PySem.W.fnOf "is_runner_of" "is_runner_of" (defArgs s8) (defBody s8) (defScope s8) .none kV8 dc8 pm8 an8 cd8 ct8) d8.ps d8.kb := ⟨fun t ht => nomatch ht⟩
  have m8 := PySem.W.mg_of X G a8
  have F9 := fun_mk (st := s9) l9 c9 k9
  have b9 := F9.binds (ps := d9.ps) fun _ _ _ _ _ _ us hl => match us, hl with | [_, _], _ => rfl
  have e9 : KbOk K (PySem.W.fnOf "is_order_for" "is_order_for" (defArgs s9) (defBody s9) (defScope s9) .none kV9 dc9 pm9 an9 (.ref cc9) ct9) d9.ps d9.kb := ⟨fun t ht => nomatch ht⟩
  have m9 := PySem.W.mg_of X G a9
  have F10 := fun_mk (st := s10) l10 c10 k10
  have b10 := F10.binds (ps := d10.ps) fun _ _ _ _ _ _ us hl => match us, hl with | [_], _ => rfl
  have e10 : KbOk K (PySem.W.fnOf "is_order_of" "is_order_of" (defArgs s10) (defBody s10) (defScope s10) .none kV10 dc10 pm10 an10 cd10 ct10) d10.ps d10.kb := ⟨fun t ht => nomatch ht⟩
  have m10 := PySem.W.mg_of X G a10
  have F11 := fun_mk (st := s11) l11 c11 k11
  have b11 := F11.binds (ps := d11.ps) fun _ _ _ _ _ _ us hl => match us, hl with | [_], _ => rfl
  have e11 : KbOk K (PySem.W.fnOf "is_race_of" "is_race_of" (defArgs s11) (defBody s11) (defScope s11) .none kV11 dc11 pm11 an11 cd11 ct11) d11.ps d11.kb := ⟨fun t ht => nomatch ht⟩
  have m11 := PySem.W.mg_of X G a11
  have F12 := fun_mk (st := s12) l12 c12 k12
  have b12 := F12.binds (ps := d12.ps) fun _ _ _ _ _ _ us hl => match us, hl with | [_], _ => rfl
  have e12 : KbOk K (PySem.W.fnOf "is_order" "is_order" (defArgs s12) (defBody s12) (defScope s12) .none kV12 dc12 pm12 an12 cd12 ct12) d12.ps d12.kb := ⟨(List.forall_mem_cons.mpr ⟨(fun s us ws _ h1 h2 => match us, ws, h1, h2 with | [], [_], _, _ => .of_eq rfl), (fun _ h => nomatch h)⟩)⟩
  have m12 := PySem.W.mg_of X G a12
  have F13 := fun_mk (st := s13) l13 c13 k13
  have b13 := F13.binds (ps := d13.ps) fun _ _ _ _ _ _ us hl => match us, hl with | [_], _ => rfl
  have e13 : KbOk K (PySem.W.fnOf "is_race" "is_race" (defArgs s13) (defBody s13) (defScope s13) .none kV13 dc13 pm13 an13 cd13 ct13) d13.ps d13.kb := ⟨(List.forall_mem_cons.mpr ⟨(fun s us ws _ h1 h2 => match us, ws, h1, h2 with | [], [_], _, _ => .of_eq rfl), (fun _ h => nomatch h)⟩)⟩
  have m13 := PySem.W.mg_of X G a13
  have F14 := fun_mk (st := s14) l14 c14 k14
  have b14 := F14.binds (ps := d14.ps) fun _ _ _ _ _ _ us hl => match us, hl with | [_, _], _ => rfl
  have e14 : KbOk K (PySem.W.fnOf "_law_pool" "_law_pool" (defArgs s14) (defBody s14) (defScope s14) .none kV14 dc14 pm14 an14 cd14 ct14) d14.ps d14.kb := ⟨fun t ht => nomatch ht⟩
  have m14 := PySem.W.mg_of X G a14
  have F15 := fun_mk (st := s15) l15 c15 k15
  have b15 := F15.binds (ps := d15.ps) fun _ _ _ _ _ _ us hl => match us, hl with | [_, _], _ => rfl
  have e15 : KbOk K (PySem.W.fnOf "_law_draw" "_law_draw" (defArgs s15) (defBody s15) (defScope s15) .none kV15 dc15 pm15 an15 cd15 ct15) d15.ps d15.kb := ⟨fun t ht => nomatch ht⟩
  have m15 := PySem.W.mg_of X G a15
  have F16 := fun_mk (st := s16) l16 c16 k16
  have b16 := F16.binds (ps := d16.ps) fun _ _ _ _ _ _ us hl => match us, hl with | [_], _ => rfl
  have e16 : KbOk K (PySem.W.fnOf "_law_is_whole" "_law_is_whole" (defArgs s16) (defBody s16) (defScope s16) .none kV16 dc16 pm16 an16 cd16 ct16) d16.ps d16.kb := ⟨fun t ht => nomatch ht⟩
  have m16 := PySem.W.mg_of X G a16
  have F17 := fun_mk (st := s17) l17 c17 k17
  have b17 := F17.binds (ps := d17.ps) fun _ _ _ _ _ _ us hl => match us, hl with | [_, _, _], _ => rfl
  have e17 : KbOk K (PySem.W.fnOf "_law_put" "_law_put" (defArgs s17) (defBody s17) (defScope s17) .none kV17 dc17 pm17 an17 cd17 ct17) d17.ps d17.kb := ⟨fun t ht => nomatch ht⟩
  have m17 := PySem.W.mg_of X G a17
  have F18 := fun_mk (st := s18) l18 c18 k18
  have b18 := F18.binds (ps := d18.ps) fun _ _ _ _ _ _ us hl => match us, hl with | [_, _], _ => rfl
  have e18 : KbOk K (PySem.W.fnOf "_law_tells" "_law_tells" (defArgs s18) (defBody s18) (defScope s18) .none kV18 dc18 pm18 an18 cd18 ct18) d18.ps d18.kb := ⟨fun t ht => nomatch ht⟩
  have m18 := PySem.W.mg_of X G a18
  have F19 := fun_mk (st := s19) l19 c19 k19
  have b19 := F19.binds (ps := d19.ps) fun _ _ _ _ _ _ us hl => match us, hl with | [_, _], _ => rfl
  have e19 : KbOk K (PySem.W.fnOf "_law_order" "_law_order" (defArgs s19) (defBody s19) (defScope s19) .none kV19 dc19 pm19 an19 cd19 ct19) d19.ps d19.kb := ⟨fun t ht => nomatch ht⟩
  have m19 := PySem.W.mg_of X G a19
  have F20 := fun_mk (st := s20) l20 c20 k20
  have b20 := F20.binds (ps := d20.ps) fun _ _ _ _ _ _ us hl => match us, hl with | [_, _], _ => rfl
  have e20 : KbOk K (PySem.W.fnOf "_law_race" "_law_race" (defArgs s20) (defBody s20) (defScope s20) .none kV20 dc20 pm20 an20 cd20 ct20) d20.ps d20.kb := ⟨fun t ht => nomatch ht⟩
  have m20 := PySem.W.mg_of X G a20
  have F21 := fun_mk (st := s21) l21 c21 k21
  have b21 := F21.binds (ps := d21.ps) fun _ _ _ _ _ _ us hl => match us, hl with | [_], _ => rfl
  have e21 : KbOk K (PySem.W.fnOf "_law_is_order" "_law_is_order" (defArgs s21) (defBody s21) (defScope s21) .none kV21 dc21 pm21 an21 cd21 ct21) d21.ps d21.kb := ⟨fun t ht => nomatch ht⟩
  have m21 := PySem.W.mg_of X G a21
  have F22 := fun_mk (st := s22) l22 c22 k22
  have b22 := F22.binds (ps := d22.ps) fun _ _ _ _ _ _ us hl => match us, hl with | [_], _ => rfl
  have e22 : KbOk K (PySem.W.fnOf "_law_is_race" "_law_is_race" (defArgs s22) (defBody s22) (defScope s22) .none kV22 dc22 pm22 an22 cd22 ct22) d22.ps d22.kb := ⟨fun t ht => nomatch ht⟩
  have m22 := PySem.W.mg_of X G a22
  have F23 := fun_mk (st := s23) l23 c23 k23
  have b23 := F23.binds (ps := d23.ps) fun _ _ _ _ _ _ us hl => match us, hl with | [_, _], _ => rfl
  have e23 : KbOk K (PySem.W.fnOf "_law_near" "_law_near" (defArgs s23) (defBody s23) (defScope s23) .none kV23 dc23 pm23 an23 cd23 ct23) d23.ps d23.kb := ⟨fun t ht => nomatch ht⟩
  have m23 := PySem.W.mg_of X G a23
  have F24 := fun_mk (st := s24) l24 c24 k24
  have b24 := F24.binds (ps := d24.ps) fun _ _ _ _ _ _ us hl => match us, hl with | [_], _ => rfl
  have e24 : KbOk K (PySem.W.fnOf "_law_right" "_law_right" (defArgs s24) (defBody s24) (defScope s24) .none kV24 dc24 pm24 an24 cd24 ct24) d24.ps d24.kb := ⟨fun t ht => nomatch ht⟩
  have m24 := PySem.W.mg_of X G a24
  have F25 := fun_mk (st := s25) l25 c25 k25
  have b25 := F25.binds (ps := d25.ps) fun _ _ _ _ _ _ us hl => match us, hl with | [_], _ => rfl
  have e25 : KbOk K (PySem.W.fnOf "law" "law" (defArgs s25) (defBody s25) (defScope s25) .none kV25 dc25 pm25 an25 cd25 ct25) d25.ps d25.kb := ⟨fun t ht => nomatch ht⟩
  have m25 := PySem.W.mg_of X G a25
  refine ⟨PySem.W.fnOf "law" "law" (defArgs s25) (defBody s25) (defScope s25) .none kV25 dc25 pm25 an25 cd25 ct25, [(cc9, PP9)], spLaw K [(PP9, fun _ _ => ("is_order_for" : Str) ++ ".<locals>." ++ "<lambda>")] 63, (List.forall_mem_cons.mpr ⟨own "is_order_for" r9 _ m9 cc9 PP9 _ _ _ _ _ _ l9 rfl rfl p9 q9, (fun _ h => nomatch h)⟩), (List.forall_mem_cons.mpr ⟨n9, (fun _ h => nomatch h)⟩), (List.forall_mem_cons.mpr ⟨PySem.W.codeHd_of_K X h9, (fun _ h => nomatch h)⟩), fun s u => .of_eq rfl, fun H a ns hl _ hH hS => ⟨a, ns, rfl, hS, hl, (List.forall_mem_cons.mpr ⟨NdefX.TabN.nil (hH (cc9, PP9) (by simp)), (fun _ h => nomatch h)⟩), fun _ => rfl⟩, fun base kin bns hTB => ?_⟩
  have hTB9 : LamX.TabB base mg cc9 PP9 := hTB (cc9, PP9) (by simp)
  have kok : ∀ d ∈ tb.fs, KOk K mg base [(PP9, fun _ _ => ("is_order_for" : Str) ++ ".<locals>." ++ "<lambda>")] d := by
    refine (List.forall_mem_cons.mpr ⟨⟨_, _, F0, b0, e0, m0, fun z => Bool.noConfusion z⟩, (List.forall_mem_cons.mpr ⟨⟨_, _, F1, b1, e1, m1, fun z => Bool.noConfusion z⟩, (List.forall_mem_cons.mpr ⟨⟨_, _, F2, b2, e2, m2, fun z => Bool.noConfusion z⟩, (List.forall_mem_cons.mpr ⟨⟨_, _, F3, b3, e3, m3, fun z => Bool.noConfusion z⟩, (List.forall_mem_cons.mpr ⟨⟨_, _, F4, b4, e4, m4, fun z => Bool.noConfusion z⟩, (List.forall_mem_cons.mpr ⟨⟨_, _, F5, b5, e5, m5, fun z => Bool.noConfusion z⟩, (List.forall_mem_cons.mpr ⟨⟨_, _, F6, b6, e6, m6, fun z => Bool.noConfusion z⟩, (List.forall_mem_cons.mpr ⟨⟨_, _, F7, b7, e7, m7, fun z => Bool.noConfusion z⟩, (List.forall_mem_cons.mpr ⟨⟨_, _, F8, b8, e8, m8, fun z => Bool.noConfusion z⟩, (List.forall_mem_cons.mpr ⟨⟨_, _, F9, b9, e9, m9, fun _ => ⟨cc9, PP9, rfl, hTB9, List.mem_cons_self .., fun t ht _ => ?_⟩⟩, (List.forall_mem_cons.mpr ⟨⟨_, _, F10, b10, e10, m10, fun z => Bool.noConfusion z⟩, (List.forall_mem_cons.mpr ⟨⟨_, _, F11, b11, e11, m11, fun z => Bool.noConfusion z⟩, (List.forall_mem_cons.mpr ⟨⟨_, _, F12, b12, e12, m12, fun z => Bool.noConfusion z⟩, (List.forall_mem_cons.mpr ⟨⟨_, _, F13, b13, e13, m13, fun z => Bool.noConfusion z⟩, (List.forall_mem_cons.mpr ⟨⟨_, _, F14, b14, e14, m14, fun z => Bool.noConfusion z⟩, (List.forall_mem_cons.mpr ⟨⟨_, _, F15, b15, e15, m15, fun z => Bool.noConfusion z⟩, (List.forall_mem_cons.mpr ⟨⟨_, _, F16, b16, e16, m16, fun z => Bool.noConfusion z⟩, (List.forall_mem_cons.mpr ⟨⟨_, _, F17, b17, e17, m17, fun z => Bool.noConfusion z⟩, (List.forall_mem_cons.mpr ⟨⟨_, _, F18, b18, e18, m18, fun z => Bool.noConfusion z⟩, (List.forall_mem_cons.mpr ⟨⟨_, _, F19, b19, e19, m19, fun z => Bool.noConfusion z⟩, (List.forall_mem_cons.mpr ⟨⟨_, _, F20, b20, e20, m20, fun z => Bool.noConfusion z⟩, (List.forall_mem_cons.mpr ⟨⟨_, _, F21, b21, e21, m21, fun z => Bool.noConfusion z⟩, (List.forall_mem_cons.mpr ⟨⟨_, _, F22, b22, e22, m22, fun z => Bool.noConfusion z⟩, (List.forall_mem_cons.mpr ⟨⟨_, _, F23, b23, e23, m23, fun z => Bool.noConfusion z⟩, (List.forall_mem_cons.mpr ⟨⟨_, _, F24, b24, e24, m24, fun z => Bool.noConfusion z⟩, (List.forall_mem_cons.mpr ⟨⟨_, _, F25, b25, e25, m25, fun z => Bool.noConfusion z⟩, (fun _ h => nomatch h)⟩)⟩)⟩)⟩)⟩)⟩)⟩)⟩)⟩)⟩)⟩)⟩)⟩)⟩)⟩)⟩)⟩)⟩)⟩)⟩)⟩)⟩)⟩)⟩)⟩)⟩)
    all_goals (first | (rw [List.mem_singleton.mp ht]; done) | (cases List.mem_singleton.mp ht; rfl))
  have gok : ∀ p ∈ tb.gs, GOk mg p := (List.forall_mem_cons.mpr ⟨⟨.int 10, _, rfl, PySem.W.mg_of X G gc0, ⟨_, rfl⟩⟩, (fun _ h => nomatch h)⟩)
  have hb : ∀ x, x ∈ bltins → mg x = none := (List.forall_mem_cons.mpr ⟨PySem.W.mg_none_of X G z0, (List.forall_mem_cons.mpr ⟨PySem.W.mg_none_of X G z1, (List.forall_mem_cons.mpr ⟨PySem.W.mg_none_of X G z2, (List.forall_mem_cons.mpr ⟨PySem.W.mg_none_of X G z3, (List.forall_mem_cons.mpr ⟨PySem.W.mg_none_of X G z4, (List.forall_mem_cons.mpr ⟨PySem.W.mg_none_of X G z5, (List.forall_mem_cons.mpr ⟨PySem.W.mg_none_of X G z6, (List.forall_mem_cons.mpr ⟨PySem.W.mg_none_of X G z7, (List.forall_mem_cons.mpr ⟨PySem.W.mg_none_of X G z8, (List.forall_mem_cons.mpr ⟨PySem.W.mg_none_of X G z9, (List.forall_mem_cons.mpr ⟨PySem.W.mg_none_of X G z10, (List.forall_mem_cons.mpr ⟨PySem.W.mg_none_of X G z11, (List.forall_mem_cons.mpr ⟨PySem.W.mg_none_of X G z12, (List.forall_mem_cons.mpr ⟨PySem.W.mg_none_of X G z13, (List.forall_mem_cons.mpr ⟨PySem.W.mg_none_of X G z14, (List.forall_mem_cons.mpr ⟨PySem.W.mg_none_of X G z15, (List.forall_mem_cons.mpr ⟨PySem.W.mg_none_of X G z16, (List.forall_mem_cons.mpr ⟨PySem.W.mg_none_of X G z17, (List.forall_mem_cons.mpr ⟨PySem.W.mg_none_of X G z18, (fun _ h => nomatch h)⟩)⟩)⟩)⟩)⟩)⟩)⟩)⟩)⟩)⟩)⟩)⟩)⟩)⟩)⟩)⟩)⟩)⟩)⟩)
  exact law_fn 1 11 63 (fix_of chk_all kok gok hb) (d := d25) (List.mem_of_getElem? (show tb.fs[25]? = some d25 from rfl)) F25 rfl rfl rfl rfl law_true
end QQ
open PySem PySem.W PyProof.Rows
set_option maxHeartbeats 0 in
theorem PySem.Challenge.cw_passedpairs_k06_whole_orders_and_races_o_holds : PySem.Challenge.rw_passedpairs_k06_whole_orders_and_races_o.Holds := by
  w_on; o_law; k_head; (case hw => w_witness2)
  k_fill
  refine QQ.walk_lam (l := PySem.Challenge.rw_passedpairs_k06_whole_orders_and_races_o) (n := 63) (k := 12) (x := "script") rfl (by decide) rfl ⟨rfl, by decide, by decide⟩ (fun w h Y => PySem.W.km_in_of Y) ?F
  case F =>
    intro w mg fa h Y KX G hmg own
    refine' QQ.all_mk KX G hmg own (by decide +kernel) ?a0 ?l0 ?c0 ?k0 ?a1 ?l1 ?c1 ?k1 ?a2 ?l2 ?c2 ?k2 ?a3 ?l3 ?c3 ?k3 ?a4 ?l4 ?c4 ?k4 ?a5 ?l5 ?c5 ?k5 ?a6 ?l6 ?c6 ?k6 ?a7 ?l7 ?c7 ?k7 ?a8 ?l8 ?c8 ?k8 ?a9 ?l9 ?c9 ?k9 ?p9 ?q9 ?h9 ?n9 ?a10 ?l10 ?c10 ?k10 ?a11 ?l11 ?c11 ?k11 ?a12 ?l12 ?c12 ?k12 ?a13 ?l13 ?c13 ?k13 ?a14 ?l14 ?c14 ?k14 ?a15 ?l15 ?c15 ?k15 ?a16 ?l16 ?c16 ?k16 ?a17 ?l17 ?c17 ?k17 ?a18 ?l18 ?c18 ?k18 ?a19 ?l19 ?c19 ?k19 ?a20 ?l20 ?c20 ?k20 ?a21 ?l21 ?c21 ?k21 ?a22 ?l22 ?c22 ?k22 ?a23 ?l23 ?c23 ?k23 ?a24 ?l24 ?c24 ?k24 ?a25 ?l25 ?c25 ?k25 ?gc0 ?z0 ?z1 ?z2 ?z3 ?z4 ?z5 ?z6 ?z7 ?z8 ?z9 ?z10 ?z11 ?z12 ?z13 ?z14 ?z15 ?z16 ?z17 ?z18
    (case a0 => k_is); (case l0 => k_is); (case c0 => k_is); (case k0 => k_is); (case a1 => k_is); (case l1 => k_is); (case c1 => k_is); (case k1 => k_is); (case a2 => k_is); (case l2 => k_is); (case c2 => k_is); (case k2 => k_is); (case a3 => k_is); (case l3 => k_is); (case c3 => k_is); (case k3 => k_is); (case a4 => k_is); (case l4 => k_is); (case c4 => k_is); (case k4 => k_is); (case a5 => k_is); (case l5 => k_is); (case c5 => k_is); (case k5 => k_is); (case a6 => k_is); (case l6 => k_is); (case c6 => k_is); (case k6 => k_is); (case a7 => k_is); (case l7 => k_is); (case c7 => k_is); (case k7 => k_is); (case a8 => k_is); (case l8 => k_is); (case c8 => k_is); (case k8 => k_is); (case a9 => k_is); (case l9 => k_is); (case c9 => k_is); (case k9 => k_is); (case p9 => k_is); (case q9 => rfl); (case h9 => kernel_rfl); (case n9 => kernel_rfl); (case a10 => k_is); (case l10 => k_is); (case c10 => k_is); (case k10 => k_is); (case a11 => k_is); (case l11 => k_is); (case c11 => k_is); (case k11 => k_is); (case a12 => k_is); (case l12 => k_is); (case c12 => k_is); (case k12 => k_is); (case a13 => k_is); (case l13 => k_is); (case c13 => k_is); (case k13 => k_is); (case a14 => k_is); (case l14 => k_is); (case c14 => k_is); (case k14 => k_is); (case a15 => k_is); (case l15 => k_is); (case c15 => k_is); (case k15 => k_is); (case a16 => k_is); (case l16 => k_is); (case c16 => k_is); (case k16 => k_is); (case a17 => k_is); (case l17 => k_is); (case c17 => k_is); (case k17 => k_is); (case a18 => k_is); (case l18 => k_is); (case c18 => k_is); (case k18 => k_is); (case a19 => k_is); (case l19 => k_is); (case c19 => k_is); (case k19 => k_is); (case a20 => k_is); (case l20 => k_is); (case c20 => k_is); (case k20 => k_is); (case a21 => k_is); (case l21 => k_is); (case c21 => k_is); (case k21 => k_is); (case a22 => k_is); (case l22 => k_is); (case c22 => k_is); (case k22 => k_is); (case a23 => k_is); (case l23 => k_is); (case c23 => k_is); (case k23 => k_is); (case a24 => k_is); (case l24 => k_is); (case c24 => k_is); (case k24 => k_is); (case a25 => k_is); (case l25 => k_is); (case c25 => k_is); (case k25 => k_is); (case gc0 => k_is); (case z0 => k_is); (case z1 => k_is); (case z2 => k_is); (case z3 => k_is); (case z4 => k_is); (case z5 => k_is); (case z6 => k_is); (case z7 => k_is); (case z8 => k_is); (case z9 => k_is); (case z10 => k_is); (case z11 => k_is); (case z12 => k_is); (case z13 => k_is); (case z14 => k_is); (case z15 => k_is); (case z16 => k_is); (case z17 => k_is); (case z18 => k_is)
