import PyProof.Rows.All
import Wide.All
import OpenK.AllK
import Wide.FinOn
import HandS.ForMost
import HandS.Exc
import HandS.WordsExc
import HandS.Defaults
import HandS.IsInst
import HandS.Style
import HandS.Deep
import HandS.SortOrd
import HandS.SortRule
import HandS.SortInts
import HandS.Conv
import HandS.Zip
import HandS.TupAny
import HandS.TupLe
import HandS.TupMul
import HandS.Wide
import HandS.SortKw
import KE.DataMinMax
import HandS.TupSets
import HandS.SetFor
import KE.KRevSl
import KE.GoesMore
import PyProof.Draws
import HandS.More
import HandS.Codes
import HandS.ExcOwn
import HandS.HeadHook1
import HandS.HeadEnd
import HandS.HeadHook2
import HandS.ExcIs
import HandS.HotCalls
import PyProof.Rows.StrIntSpec
import Lean
import HandS.Head0
import HandS.Head1
import HandS.Head2
import PySem.Challenge.RW_downrings_k02_open_minutes
set_option Elab.async false
set_option linter.all false
set_option maxRecDepth 100000
set_option maxHeartbeats 0
/-! Dd1: plain data, outcomes, the primitive operations on plain data. -/
namespace Dd
open PySem

inductive D where
  | non | bl (b : Bool) | int (i : Int) | str (s : Str)
  | tup (xs : List D) | lst (xs : List D) | dct (ks vs : List D) | ref (l : Nat)
  /-- the script: a list of ints that nobody changes -/
  | scr (ns : List Int)

abbrev SZ : Nat := 16777216

mutual
def D.py : D → PyData
  | .non => .none
  | .bl b => .bool b
  | .int i => .int i
  | .str s => .str s
  | .tup xs => .tuple (D.pys xs)
  | .lst xs => .list (D.pys xs)
  | .dct ks vs => .dict ((D.pys ks).zip (D.pys vs))
  | .ref _ => .none
  | .scr _ => .none
def D.pys : List D → List PyData
  | [] => []
  | x :: xs => D.py x :: D.pys xs
end
mutual
/-- no cell within -/
def D.pure : D → Bool
  | .non => true
  | .bl _ => true
  | .int _ => true
  | .str _ => true
  | .tup xs => D.pures xs
  | .lst xs => D.pures xs
  | .dct ks vs => D.pures ks && D.pures vs && (ks.length == vs.length)
  | .ref _ => false
  | .scr _ => false
def D.pures : List D → Bool
  | [] => true
  | x :: xs => D.pure x && D.pures xs
end
mutual
/-- no list within, no dict, no script -/
def D.nl : D → Bool
  | .non => true
  | .bl _ => true
  | .int _ => true
  | .str _ => true
  | .tup xs => D.nls xs
  | .lst _ => false
  | .dct _ _ => false
  | .ref _ => true
  | .scr _ => false
def D.nls : List D → Bool
  | [] => true
  | x :: xs => D.nl x && D.nls xs
end
theorem D.nls_all : ∀ xs : List D, D.nls xs = xs.all D.nl
  | [] => rfl
  | x :: xs => by simp only [D.nls, D.nls_all xs, List.all_cons]
theorem D.pys_map : ∀ xs : List D, D.pys xs = xs.map D.py
  | [] => rfl
  | x :: xs => by simp only [D.pys, D.pys_map xs, List.map_cons]
theorem D.pures_all : ∀ xs : List D, D.pures xs = xs.all D.pure
  | [] => rfl
  | x :: xs => by simp only [D.pures, D.pures_all xs, List.all_cons]

/-- what == may be asked of -/
def D.okEq (d : D) : Bool := d.pure && SeqAt.shaped d.py
def eqD : D → D → Option Bool
  | .int i, .int j => some (decide (i = j))
  | .bl a, .bl b => some (a == b)
  | .str a, .str b => some (decide (a = b))
  | .non, .non => some true
  | .dct _ _, .lst _ => some false
  | d, e => if d.okEq && e.okEq then some (PyData.eqv d.py e.py) else none

/-- an int within the sorts: the insertion sort of ints -/
def insI (x : Int) : List Int → List Int
  | [] => [x]
  | y :: ys => if x ≤ y then x :: y :: ys else y :: insI x ys
def sortI : List Int → List Int
  | [] => []
  | x :: xs => insI x (sortI xs)
/-- pairs of ints, by the first, then by the second -/
def leP (p q : Int × Int) : Bool := if p.1 = q.1 then decide (p.2 ≤ q.2) else decide (p.1 < q.1)
def insP (x : Int × Int) : List (Int × Int) → List (Int × Int)
  | [] => [x]
  | y :: ys => if leP x y then x :: y :: ys else y :: insP x ys
def sortP : List (Int × Int) → List (Int × Int)
  | [] => []
  | x :: xs => insP x (sortP xs)

def D.int? : D → Option Int
  | .int i => some i
  | _ => none
def D.bl? : D → Option Bool
  | .bl b => some b
  | _ => none
def D.pair? : D → Option (Int × Int)
  | .tup [.int i, .int j] => some (i, j)
  | _ => none
def ofPair (p : Int × Int) : D := .tup [.int p.1, .int p.2]
/-- all of a list by f, or none -/
def allM {α : Type} (f : D → Option α) : List D → Option (List α)
  | [] => some []
  | x :: xs => match f x, allM f xs with
    | some a, some as => some (a :: as)
    | _, _ => none

def D.isNon : D → Bool
  | .non => true
  | _ => false
inductive Ty where
  | int | bool | str | tuple | list | dict
  deriving DecidableEq
def Ty.name : Ty → String
  | .int => "int" | .bool => "bool" | .str => "str" | .tuple => "tuple" | .list => "list" | .dict => "dict"
/-- isinstance -/
def isiB : D → Ty → Bool
  | .bl _, .int => true
  | .bl _, .bool => true
  | .int _, .int => true
  | .str _, .str => true
  | .tup _, .tuple => true
  | .lst _, .list => true
  | .dct _ _, .dict => true
  | _, _ => false
def isiD : D → Ty → Option Bool
  | .ref _, _ => none
  | .scr _, _ => none
  | d, t => some (isiB d t)
/-- the place that an index means -/
def ixD (n : Nat) (i : Int) : Option Nat := if 0 ≤ i then (if i < n then some i.toNat else none) else if -(n : Int) ≤ i then some (i + n).toNat else none
def getI {α : Type} (xs : List α) (i : Int) : Option α := (ixD xs.length i).bind fun j => xs[j]?
/-- a slice's bound -/
def sIxD (n d : Nat) : Option Int → Nat
  | none => d
  | some v => if v < 0 then (v + (n : Int)).toNat else min v.toNat n
def cutD {α : Type} (xs : List α) (lo hi : Option Int) : List α := (xs.drop (sIxD xs.length 0 lo)).take (sIxD xs.length xs.length hi - sIxD xs.length 0 lo)

/-- the primitive operations -/
inductive P where
  | add | sub | mul | fdiv | mod | pow | neg
  | eq | ne | lt | le | gt | ge | is_ | isnt | in_ | nin
  | ix
  | len | all | any | tuple | list | sorted | sum | max2 | min2 | max1 | min1 | maxd | mind | int | repr | str
  | isi (t : Ty) | lenset | sortset | listrange | rev
  deriving DecidableEq

def D.flat : D → Bool
  | .non => true
  | .bl _ => true
  | .int _ => true
  | .str _ => true
  | _ => false
/-- == of flat things -/
def eqF : D → D → Bool
  | .non, .non => true
  | .bl a, .bl b => a == b
  | .bl a, .int b => (if a then 1 else 0) == b
  | .int a, .bl b => a == (if b then 1 else 0)
  | .int a, .int b => a == b
  | .str a, .str b => a == b
  | _, _ => false
/-- in a list (l: true), in a tuple -/
def inD (l : Bool) (x : D) (ys : List D) : Option Bool :=
  if x.flat && ys.all D.flat then some (ys.any fun y => eqF y x)
  else if l && (x.okEq && D.okEq (.lst ys)) then some (ys.any fun y => PyData.eqv y.py x.py) else none
def dedupI : List Int → List Int
  | [] => []
  | x :: xs => if x ∈ xs then dedupI xs else x :: dedupI xs
def maxI : List Int → Option Int
  | [] => none
  | x :: xs => some (xs.foldl max x)
def minI : List Int → Option Int
  | [] => none
  | x :: xs => some (xs.foldl min x)

def bI (b : Bool) : Int := if b then 1 else 0
/-- a number as + and < take it -/
def rngL (lo : Int) (n : Nat) : List D := (List.range n).map fun (i : Nat) => D.int (lo + (i : Int))

def aAdd : List D → Option (D × Bool)
  | [.int i, .int j] => some (.int (i + j), false)
  | [.str a, .str b] => if a.length + b.length ≤ SZ then some (.str (a ++ b), false) else none
  | [.lst xs, .lst ys] => if xs.length + ys.length ≤ SZ then some (.lst (xs ++ ys), true) else none
  | [.tup xs, .tup ys] => if xs.length + ys.length ≤ SZ then some (.tup (xs ++ ys), false) else none
  | _ => none
def aSub : List D → Option (D × Bool)
  | [.int i, .int j] => some (.int (i - j), false)
  | _ => none
def aMul : List D → Option (D × Bool)
  | [.int i, .int j] => if i.natAbs < 2 ^ 64 ∨ j.natAbs < 2 ^ 64 then some (.int (i * j), false) else none
  | [.lst xs, .int n] => if n < 2 ^ 62 ∧ -(2 ^ 62) ≤ n ∧ xs.length * n.toNat ≤ SZ then some (.lst (List.replicate n.toNat xs).flatten, true) else none
  | [.tup xs, .int n] => if xs.isEmpty = false ∧ 2 ≤ n ∧ n ≤ 1000 ∧ xs.length ≤ 1000 then some (.tup (List.replicate n.toNat xs).flatten, false) else none
  | _ => none
def aFdiv : List D → Option (D × Bool)
  | [.int i, .int j] => if 0 < j ∧ (j < 1073741824 ∨ j < 2 ^ 4000) then some (.int (i / j), false) else none
  | _ => none
def aMod : List D → Option (D × Bool)
  | [.int i, .int j] => if 0 < j then some (.int (i % j), false) else none
  | _ => none
def aPow : List D → Option (D × Bool)
  | [.int i, .int j] => if 0 ≤ j ∧ j ≤ 1000000 ∧ i.natAbs < 2 ^ 64 then some (.int (i ^ j.toNat), false) else none
  | _ => none
def aNeg : List D → Option (D × Bool)
  | [.int i] => some (.int (-i), false)
  | _ => none
def aEq : List D → Option (D × Bool)
  | [.tup xs, .tup []] => some (.bl xs.isEmpty, false)
  | [d, e] => (eqD d e).map fun b => (.bl b, false)
  | _ => none
def aNe : List D → Option (D × Bool)
  | [d, e] => (eqD d e).map fun b => (.bl (!b), false)
  | _ => none
def aLt : List D → Option (D × Bool)
  | [.int i, .int j] => some (.bl (decide (i < j)), false)
  | _ => none
def aLe : List D → Option (D × Bool)
  | [.int i, .int j] => some (.bl (decide (i ≤ j)), false)
  | _ => none
def aGt : List D → Option (D × Bool)
  | [.int i, .int j] => some (.bl (decide (j < i)), false)
  | _ => none
def aGe : List D → Option (D × Bool)
  | [.int i, .int j] => some (.bl (decide (j ≤ i)), false)
  | _ => none
/-- != of a list that is not empty, whatever is in it, and the empty one -/
def neNil : List D → Option (D × Bool)
  | [.lst (_ :: _), .lst []] => some (.bl true, false)
  | _ => none
def aIs_ : List D → Option (D × Bool)
  | [d, .non] => some (.bl d.isNon, false)
  | [.bl a, .bl b] => some (.bl (a == b), false)
  | _ => none
def aIsnt : List D → Option (D × Bool)
  | [d, .non] => some (.bl (!d.isNon), false)
  | [.bl a, .bl b] => some (.bl (!(a == b)), false)
  | _ => none
def aIn_ : List D → Option (D × Bool)
  | [x, .lst ys] => (inD true x ys).map fun b => (.bl b, false)
  | [x, .tup ys] => (inD false x ys).map fun b => (.bl b, false)
  | _ => none
def aNin : List D → Option (D × Bool)
  | [x, .lst ys] => (inD true x ys).map fun b => (.bl (!b), false)
  | [x, .tup ys] => (inD false x ys).map fun b => (.bl (!b), false)
  | _ => none
def aIx : List D → Option (D × Bool)
  | [.lst xs, .int i] => (getI xs i).map fun d => (d, false)
  | [.tup xs, .int i] => (getI xs i).map fun d => (d, false)
  | [.scr ns, .int i] => (getI ns i).map fun n => (.int n, false)
  | [.str z, .int i] => if z.length ≤ SZ then (getI z.cps.toList i).map fun c => (.str ⟨#[c]⟩, false) else none
  | _ => none
/-- a slice -/
def cutP : D → Option Int → Option Int → Option (D × Bool)
  | .lst xs, lo, hi => some (.lst (cutD xs lo hi), true)
  | .tup xs, lo, hi => some (.tup (cutD xs lo hi), false)
  | _, _, _ => none
def aLen : List D → Option (D × Bool)
  | [.scr ns] => some (.int ns.length, false)
  | [.lst xs] => some (.int xs.length, false)
  | [.tup xs] => some (.int xs.length, false)
  | [.str z] => if z.length ≤ SZ then some (.int z.length, false) else none
  | _ => none
def aAll : List D → Option (D × Bool)
  | [.lst xs] => (allM D.bl? xs).map fun bs => (.bl (bs.all id), false)
  | _ => none
def aAny : List D → Option (D × Bool)
  | [.lst xs] => (allM D.bl? xs).map fun bs => (.bl (bs.any id), false)
  | _ => none
def aTuple : List D → Option (D × Bool)
  | [.lst xs] => some (.tup xs, false)
  | [.tup xs] => some (.tup xs, false)
  | _ => none
def aList : List D → Option (D × Bool)
  | [.lst xs] => some (.lst xs, true)
  | [.tup xs] => some (.lst xs, true)
  | _ => none
def aSorted : List D → Option (D × Bool)
  | [.lst xs] => (match allM D.int? xs with
    | some is => some (.lst ((sortI is).map .int), true)
    | none => (match allM D.pair? xs with
      | some ps => if ps.length < 64 ∧ (ps.all fun p => decide (0 ≤ p.1) && decide (0 ≤ p.2)) = true then some (.lst ((sortP ps).map ofPair), true) else none
      | none => none))
  | [.tup xs] => (allM D.int? xs).map fun is => (.lst ((sortI is).map .int), true)
  | _ => none
def aSum : List D → Option (D × Bool)
  | [.lst xs] => (allM D.int? xs).map fun is => (.int is.sum, false)
  | _ => none
def aMax2 : List D → Option (D × Bool)
  | [.int i, .int j] => some (.int (if j > i then j else i), false)
  | _ => none
def aMin2 : List D → Option (D × Bool)
  | [.int i, .int j] => some (.int (if j < i then j else i), false)
  | _ => none
def aMax1 : List D → Option (D × Bool)
  | [.lst xs] => ((allM D.int? xs).bind maxI).map fun m => (.int m, false)
  | _ => none
def aMin1 : List D → Option (D × Bool)
  | [.lst xs] => ((allM D.int? xs).bind minI).map fun m => (.int m, false)
  | _ => none
def orD (m : Option Int) (d : D) : D := match m with
  | some m => .int m
  | none => d
def aMaxd : List D → Option (D × Bool)
  | [.lst xs, d] => if d.flat = true then (allM D.int? xs).map fun is => (orD (maxI is) d, false) else none
  | _ => none
def aMind : List D → Option (D × Bool)
  | [.lst xs, d] => if d.flat = true then (allM D.int? xs).map fun is => (orD (minI is) d, false) else none
  | _ => none
def aInt : List D → Option (D × Bool)
  | [.bl b] => some (.int (if b then 1 else 0), false)
  | _ => none
def aRepr : List D → Option (D × Bool)
  | [d] => if d.pure && decide (d.py.depth ≤ 64) && d.py.showable && decide (d.py.shown.length ≤ SZ) then some (.str d.py.shown, false) else none
  | _ => none
def aIsi (t : Ty) : List D → Option (D × Bool)
  | [d] => (isiD d t).map fun b => (.bl b, false)
  | _ => none
def aLenset : List D → Option (D × Bool)
  | [.tup xs] => if xs.length ≤ 4000 then (allM D.int? xs).map fun is => (.int (dedupI is).length, false) else none
  | _ => none
def aListrange : List D → Option (D × Bool)
  | [.int n] => if 0 ≤ n ∧ n ≤ 1048576 then some (.lst (rngL 0 n.toNat), true) else none
  | [.int m, .int n] => if (-1048576 ≤ m ∧ m ≤ 1048576) ∧ (0 ≤ n ∧ n ≤ 1048576) then some (.lst (rngL m (n - m).toNat), true) else none
  | _ => none
/-- a[::-1] -/
def aRev : List D → Option (D × Bool)
  | [.lst xs] => some (.lst xs.reverse, true)
  | [.tup xs] => some (.tup xs.reverse, false)
  | _ => none
/-- what an operation tells of values; the flag: a new list, nobody's yet -/
def P.app (p : P) (ds : List D) : Option (D × Bool) := match p with
  | .add => aAdd ds
  | .sub => aSub ds
  | .mul => aMul ds
  | .fdiv => aFdiv ds
  | .mod => aMod ds
  | .pow => aPow ds
  | .neg => aNeg ds
  | .eq => aEq ds
  | .ne => (match aNe ds with
    | some r => some r
    | none => neNil ds)
  | .lt => aLt ds
  | .le => aLe ds
  | .gt => aGt ds
  | .ge => aGe ds
  | .is_ => aIs_ ds
  | .isnt => aIsnt ds
  | .in_ => aIn_ ds
  | .nin => aNin ds
  | .ix => aIx ds
  | .len => aLen ds
  | .all => aAll ds
  | .any => aAny ds
  | .tuple => aTuple ds
  | .list => aList ds
  | .sorted => aSorted ds
  | .sum => aSum ds
  | .max2 => aMax2 ds
  | .min2 => aMin2 ds
  | .max1 => aMax1 ds
  | .min1 => aMin1 ds
  | .maxd => aMaxd ds
  | .mind => aMind ds
  | .int => aInt ds
  | .repr => aRepr ds
  | .isi t => aIsi t ds
  | .lenset => aLenset ds
  | .listrange => aListrange ds
  | .rev => aRev ds
  | _ => none
end Dd

/-! Dd2: the core syntax and what it does on plain data. -/
namespace Dd
open PySem

/-- what a cell holds -/
inductive CO where
  | lst (xs : List D)
  | dct (kvs : List (D × D))
  | ins (c : Str) (fs : List (Str × D))
abbrev CH := List CO
def CO.nl : CO → Bool
  | .lst xs => D.nls xs
  | _ => false
structure Exc where
  cls : Str
  arg : Option D
inductive Out (σ α : Type) where
  | ok (a : α) (s : σ)
  | exc (x : Exc) (s : σ)
  | stuck
def Out.bind {σ α β : Type} (o : Out σ α) (f : α → σ → Out σ β) : Out σ β := match o with
  | .ok a s => f a s
  | .exc x s => .exc x s
  | .stuck => .stuck
@[simp] theorem Out.bind_ok {σ α β : Type} (a : α) (s : σ) (f : α → σ → Out σ β) : (Out.ok a s).bind f = f a s := rfl
@[simp] theorem Out.bind_exc {σ α β : Type} (x : Exc) (s : σ) (f : α → σ → Out σ β) : (Out.exc x s : Out σ α).bind f = .exc x s := rfl
@[simp] theorem Out.bind_stuck {σ α β : Type} (f : α → σ → Out σ β) : (Out.stuck : Out σ α).bind f = .stuck := rfl

/-- the slots: a value, and whether its list is the slot's own -/
abbrev Slots := List (Option (D × Bool))
structure Sta where
  sl : Slots
  h : CH
/-- a def: the arguments, the cells -/
abbrev FnD := List D → CH → Out CH (D × Bool)

def Slots.val (sl : Slots) (i : Nat) : Option D := match sl[i]? with
  | some (some (d, _)) => some d
  | _ => none
def Slots.owns (sl : Slots) (i : Nat) : Bool := match sl[i]? with
  | some (some (_, true)) => true
  | _ => false
/-- the slot's list is from now on anybody's -/
def Slots.loose (sl : Slots) (i : Nat) : Slots := match sl[i]? with
  | some (some (d, true)) => sl.set i (some (d, false))
  | _ => sl
def wipeD (sl : Slots) : List Nat → Slots
  | [] => sl
  | v :: vs => (wipeD sl vs).set v none
/-- the slots vs as in the elder ones -/
def backD (old sl : Slots) : List Nat → Slots
  | [] => sl
  | v :: vs => (backD old sl vs).set v ((old[v]?).getD none)

/-- an operand: a slot that is looked at when all operands are there, or a value -/
inductive Opd where
  | sl (i : Nat)
  | d (d : D)
def derefD (h : CH) : D → D
  | .ref l => match h[l]? with
    | some (.lst xs) => .lst xs
    | _ => .ref l
  | d => d
mutual
/-- cells within, told as they are now -/
def deep (h : CH) : D → Option D
  | .ref l => match h[l]? with
    | some (.lst xs) => if D.pures xs = true then some (.lst xs) else none
    | _ => none
  | .tup xs => (deeps h xs).map .tup
  | .lst xs => if D.pures xs = true then some (.lst xs) else none
  | .non => some .non
  | .bl b => some (.bl b)
  | .int i => some (.int i)
  | .str z => some (.str z)
  | .dct _ _ => none
  | .scr _ => none
def deeps (h : CH) : List D → Option (List D)
  | [] => some []
  | x :: xs => match deep h x, deeps h xs with
    | some y, some ys => some (y :: ys)
    | _, _ => none
end
def Opd.raw (s : Sta) : Opd → Option D
  | .sl i => s.sl.val i
  | .d x => some x
def Opd.rd (s : Sta) (o : Opd) : Option D := (o.raw s).map (derefD s.h)
def Opd.isL (s : Sta) (o : Opd) : Bool := match o.rd s with
  | some (.lst _) => true
  | _ => false
def rdAll (s : Sta) : List Opd → Option (List D)
  | [] => some []
  | o :: os => match o.rd s, rdAll s os with
    | some d, some ds => some (d :: ds)
    | _, _ => none

/-- the values as they are -/
def rawAll (s : Sta) : List Opd → Option (List D)
  | [] => some []
  | o :: os => match o.raw s, rawAll s os with
    | some d, some ds => some (d :: ds)
    | _, _ => none
/-- changes of a list by its methods -/
inductive MOp where
  | append | pop | popAt | insert | extend | remove
  deriving DecidableEq
def MOp.app : MOp → List D → List D → Option (List D × D)
  | .append, xs, [d] => if xs.length < SZ then some (xs ++ [d], .non) else none
  | .pop, xs, [] => match xs[xs.length - 1]? with | some d => some (xs.dropLast, d) | none => none
  | .popAt, xs, [.int i] => match ixD xs.length i with | some k => (match xs[k]? with | some d => some (xs.eraseIdx k, d) | none => none) | none => none
  | .insert, xs, [.int i, d] => if 0 ≤ i ∧ i ≤ xs.length ∧ xs.length < SZ then some (xs.take i.toNat ++ d :: xs.drop i.toNat, .non) else none
  | .extend, xs, [.lst ys] => if xs.length + ys.length ≤ SZ then some (xs ++ ys, .non) else none
  | _, _, _ => none
/-- where a change goes: a slot's own list, or a cell -/
def chg (s : Sta) (o : Opd) (f : List D → Option (List D × D)) : Out Sta D := match o with
  | .sl i => match s.sl[i]? with
    | some (some (.lst xs, true)) => (match f xs with | some (ys, d) => .ok d { s with sl := s.sl.set i (some (.lst ys, true)) } | none => .stuck)
    | some (some (.ref l, _)) => (match s.h[l]? with
      | some (.lst xs) => (match f xs with | some (ys, d) => .ok d { s with h := s.h.set l (.lst ys) } | none => .stuck)
      | _ => .stuck)
    | _ => .stuck
  | .d (.ref l) => (match s.h[l]? with
    | some (.lst xs) => (match f xs with | some (ys, d) => .ok d { s with h := s.h.set l (.lst ys) } | none => .stuck)
    | _ => .stuck)
  | .d _ => .stuck

mutual
inductive C where
  | var (i : Nat)
  | lit (d : D)
  | glb (x : Str) (d : D)
  | tup (es : Cs)
  | lst (es : Cs)
  /-- a list display whose list is a cell -/
  | lstR (es : Cs)
  | emp
  /-- a slot's own list, from now on a cell -/
  | share (i : Nat)
  /-- repr of what has cells within -/
  | reprC (c : C)
  | dct1 (k v : C)
  | nt (a : C)
  | and (a b : C)
  | or (a b : C)
  | ite (t a b : C)
  | prim (p : P) (es : Cs)
  | slc (a : C) (lo hi : Cs)
  | fn (x : Str) (F : FnD) (es : Cs)
  /-- a call that is lent one's own lists: it keeps none of them -/
  | fnB (x : Str) (F : FnD) (es : Cs)
  /-- [f, g][w](..) -/
  | sel (fs : List (Str × FnD)) (w : C) (es : Cs)
  | chain (p q : P) (a b c : C)
  | comp (own : List (Str × Nat)) (tg : List Nat) (one : Bool) (it : It) (cond : Cs) (elt : C)
  | mut (m : MOp) (r : C) (es : Cs)
inductive Cs where
  | nil
  | cons (c : C) (cs : Cs)
inductive It where
  | of (c : C)
  | rng1 (c : C)
  | rng2 (a b : C)
  | enum (c : C)
  | zip (a b : C)
  /-- a slot's own list, hidden while it is walked -/
  | ofO (i : Nat)
  | enumO (i : Nat)
end
/-- the chosen one -/
def selF (fs : List (Str × FnD)) : D → Option FnD
  | .int i => if 0 ≤ i then (fs[i.toNat]?).map (·.2) else none
  | _ => none
def It.hid : It → Option Nat
  | .ofO i => some i
  | .enumO i => some i
  | _ => none
/-- the hidden list, told again -/
def unh (it : It) (old sl : Slots) : Slots := match it with
  | .ofO i => sl.set i ((old[i]?).getD none)
  | .enumO i => sl.set i ((old[i]?).getD none)
  | _ => sl
def Cs.len : Cs → Nat
  | .nil => 0
  | .cons _ cs => cs.len + 1

/-- the items into the targets -/
def tgts (sl : Slots) : List Nat → List D → Option Slots
  | [], [] => some sl
  | i :: is, d :: ds => tgts (sl.set i (some (d, false))) is ds
  | _, _ => none
def tgt (sl : Slots) (tg : List Nat) (one : Bool) (d : D) : Option Slots := match one, tg with
  | true, [i] => some (sl.set i (some (d, false)))
  | false, _ => (match d with
    | .tup ds => tgts sl tg ds
    | _ => none)
  | true, _ => none

def toC {σ : Type} (s : Sta) (o : Out CH (D × Bool)) : Out Sta (D × Bool) := match o with
  | .ok a h => .ok a { s with h := h }
  | .exc x h => .exc x { s with h := h }
  | .stuck => .stuck

/-- a loop of a comprehension: each item, what is kept of it -/
def compL (turn : D → Sta → Out Sta (Option D)) : List D → List D → Sta → Out Sta (List D)
  | [], acc, s => .ok acc s
  | d :: ds, acc, s => (turn d s).bind fun o s => match o with
    | some y => compL turn ds (acc ++ [y]) s
    | none => compL turn ds acc s
/-- none that raises -/
def Out.calm {σ α : Type} : Out σ α → Out σ α
  | .ok a s => .ok a s
  | .exc _ _ => .stuck
  | .stuck => .stuck
def itemsOf : D → Option (List D)
  | .lst xs => some xs
  | .tup xs => some xs
  | _ => none
def enumD : Nat → List D → List D
  | _, [] => []
  | i, d :: ds => .tup [.int i, d] :: enumD (i + 1) ds
def zipD : List D → List D → List D
  | x :: xs, y :: ys => .tup [x, y] :: zipD xs ys
  | _, _ => []
/-- an operand: a name is looked at later -/
def opdOf (c : C) (r : Sta → Out Sta (D × Bool)) (s : Sta) : Out Sta Opd := match c with
  | .var i => (match s.sl.val i with
    | some _ => .ok (.sl i) s
    | none => .stuck)
  | _ => (r s).bind fun d s => .ok (.d d.1) s
def okRng (a b : Int) : Bool := decide (-1048576 ≤ a ∧ a ≤ 1048576 ∧ -1048576 ≤ b ∧ b ≤ 1048576)

mutual
/-- a value; the flag: a new list, nobody's yet -/
def ev : C → Sta → Out Sta (D × Bool)
  | .var i, s => match s.sl.val i with
    | some d => .ok (d, false) { s with sl := s.sl.loose i }
    | none => .stuck
  | .lit d, s => .ok (d, false) s
  | .glb _ d, s => .ok (d, false) s
  | .tup es, s => (evs es s).bind fun ds s => .ok (.tup ds, false) s
  | .lst es, s => (evs es s).bind fun ds s => .ok (.lst ds, true) s
  | .lstR es, s => (evs es s).bind fun ds s => .ok (.ref s.h.length, false) { s with h := s.h ++ [.lst ds] }
  | .share i, s => match s.sl[i]? with
    | some (some (.lst xs, true)) => .ok (.ref s.h.length, false) ⟨s.sl.set i (some (.ref s.h.length, false)), s.h ++ [.lst xs]⟩
    | _ => .stuck
  | .reprC c, s => (ev c s).bind fun d s => match deep s.h d.1 with
    | some e => (match aRepr [e] with
      | some r => .ok r s
      | none => .stuck)
    | none => .stuck
  | .emp, s => .ok (.dct [] [], false) s
  | .dct1 k v, s => (ev k s).bind fun a s => (ev v s).bind fun b s => match a.1 with
    | .int _ => .ok (.dct [a.1] [b.1], false) s
    | .str _ => .ok (.dct [a.1] [b.1], false) s
    | _ => .stuck
  | .nt a, s => (ev a s).bind fun d s => match d.1 with
    | .bl b => .ok (.bl (!b), false) s
    | _ => .stuck
  | .and a b, s => (ev a s).bind fun d s => match d.1 with
    | .bl true => (ev b s).bind fun e s => .ok (e.1, false) s
    | .bl false => .ok (.bl false, false) s
    | _ => .stuck
  | .or a b, s => (ev a s).bind fun d s => match d.1 with
    | .bl true => .ok (.bl true, false) s
    | .bl false => (ev b s).bind fun e s => .ok (e.1, false) s
    | _ => .stuck
  | .ite t a b, s => (ev t s).bind fun d s => match d.1 with
    | .bl true => (ev a s).bind fun e s => .ok (e.1, false) s
    | .bl false => (ev b s).bind fun e s => .ok (e.1, false) s
    | _ => .stuck
  | .prim p es, s => (evo es s).bind fun os s => match rdAll s os with
    | some ds => (match p.app ds with
      | some r => .ok r s
      | none => .stuck)
    | none => .stuck
  | .slc a lo hi, s => (opdOf a (ev a) s).bind fun o s => (evp lo s).bind fun l s => (evp hi s).bind fun h s => match o.rd s with
    | some d => (match cutP d l h with
      | some r => .ok r s
      | none => .stuck)
    | none => .stuck
  | .fn _ F es, s => (evs es s).bind fun ds s => match F ds s.h with
    | .ok a h => .ok a { s with h := h }
    | .exc x h => .exc x { s with h := h }
    | .stuck => .stuck
  | .sel fs w es, s => (ev w s).bind fun d s => match selF fs d.1 with
    | some F => (evs es s).bind fun ds s => (match F ds s.h with
      | .ok a h => .ok a { s with h := h }
      | .exc x h => .exc x { s with h := h }
      | .stuck => .stuck)
    | none => .stuck
  | .fnB _ F es, s => (evo es s).bind fun os s => match rawAll s os with
    | some ds => (match F ds s.h with
      | .ok a h => if (a.1.nl && h.all CO.nl) = true then .ok (a.1, false) { s with h := h } else .stuck
      | _ => .stuck)
    | none => .stuck
  | .chain p q a b c, s => (opdOf a (ev a) s).bind fun oa s => (opdOf b (ev b) s).bind fun ob s => match rdAll s [oa, ob] with
    | some [x, .int y] => (match p.app [x, .int y] with
      | some (.bl true, _) => (opdOf c (ev c) s).bind fun oc s => (match rdAll s [oc] with
        | some [z] => (match q.app [.int y, z] with
          | some r => .ok r s
          | none => .stuck)
        | _ => .stuck)
      | some (.bl false, _) => .ok (.bl false, false) s
      | _ => .stuck)
    | _ => .stuck
  | .comp own tg one it cond elt, s0 => (evi it s0).bind fun ds s =>
      if (own.all fun p => !s.sl.owns p.2) = true then
        match (compL (fun d s1 => match tgt s1.sl tg one d with
            | some sl => (evc cond { s1 with sl := sl }).bind fun k s2 => match k with
              | true => (ev elt s2).bind fun y s3 => .ok (some y.1) { s3 with sl := wipeD s3.sl (own.map (·.2)) }
              | false => .ok none { s2 with sl := wipeD s2.sl (own.map (·.2)) }
            | none => .stuck) ds [] { s with sl := wipeD s.sl (own.map (·.2)) }) with
        | .ok acc s2 => .ok (.lst acc, true) { s2 with sl := unh it s0.sl (backD s.sl s2.sl (own.map (·.2))) }
        | _ => .stuck
      else .stuck
  | .mut m r es, s => (opdOf r (ev r) s).bind fun o s => if o.isL s = true then (evs es s).bind fun ds s =>
      (chg s o (fun xs => m.app xs ds)).bind fun d s => .ok (d, false) s else .stuck
def evs : Cs → Sta → Out Sta (List D)
  | .nil, s => .ok [] s
  | .cons c cs, s => (ev c s).bind fun d s => (evs cs s).bind fun ds s => .ok (d.1 :: ds) s
/-- operands -/
def evo : Cs → Sta → Out Sta (List Opd)
  | .nil, s => .ok [] s
  | .cons c cs, s => (opdOf c (ev c) s).bind fun o s => (evo cs s).bind fun os s => .ok (o :: os) s
/-- a slice's part -/
def evp : Cs → Sta → Out Sta (Option Int)
  | .nil, s => .ok none s
  | .cons c .nil, s => (ev c s).bind fun d s => match d.1 with
    | .int i => .ok (some i) s
    | _ => .stuck
  | .cons _ (.cons _ _), _ => .stuck
/-- a clause's tests (none or one) -/
def evc : Cs → Sta → Out Sta Bool
  | .nil, s => .ok true s
  | .cons c .nil, s => (ev c s).bind fun d s => match d.1 with
    | .bl b => .ok b s
    | _ => .stuck
  | .cons _ (.cons _ _), _ => .stuck
/-- what is walked -/
def evi : It → Sta → Out Sta (List D)
  | .of c, s => (ev c s).bind fun d s => match itemsOf d.1 with
    | some ds => .ok ds s
    | none => .stuck
  | .rng1 c, s => (ev c s).bind fun d s => match d.1 with
    | .int n => if okRng 0 n = true then .ok (rngL 0 n.toNat) s else .stuck
    | _ => .stuck
  | .rng2 a b, s => (ev a s).bind fun d s => (ev b s).bind fun e s => match d.1, e.1 with
    | .int m, .int n => if okRng m n = true then .ok (rngL m (n - m).toNat) s else .stuck
    | _, _ => .stuck
  | .enum c, s => (ev c s).bind fun d s => match d.1 with
    | .lst ds => .ok (enumD 0 ds) s
    | .tup ds => .ok (enumD 0 ds) s
    | _ => .stuck
  | .zip a b, s => (ev a s).bind fun d s => (ev b s).bind fun e s => match d.1, e.1 with
    | .lst xs, .lst ys => .ok (zipD xs ys) s
    | .tup xs, .tup ys => .ok (zipD xs ys) s
    | _, _ => .stuck
  | .ofO i, s => match s.sl[i]? with
    | some (some (.lst xs, true)) => .ok xs { s with sl := s.sl.set i none }
    | _ => .stuck
  | .enumO i, s => match s.sl[i]? with
    | some (some (.lst xs, true)) => .ok (enumD 0 xs) { s with sl := s.sl.set i none }
    | _ => .stuck
end

inductive Flow where
  | next | brk | cnt
  | ret (d : D) (o : Bool)
mutual
inductive S where
  | asg (i : Nat) (c : C)
  | unp (is : List Nat) (c : C)
  | par (is : List Nat) (cs : Cs)
  | setix (r i c : C)
  /-- two items by two values -/
  | set2 (r1 i1 r2 i2 : C) (cs : Cs)
  | exp (c : C)
  | ite (c : C) (a b : Ss)
  | fr (tg : List Nat) (one : Bool) (it : It) (b : Ss)
  | whl (n : Nat) (c : C) (b : Ss)
  | brk | cnt | pas
  | ret (c : C)
  | retN
  | never
  /-- raise C('text') -/
  | rai (c z : Str)
inductive Ss where
  | nil
  | cons (s : S) (ss : Ss)
end
def forL (turn : D → Sta → Out Sta Flow) : List D → Sta → Out Sta Flow
  | [], s => .ok .next s
  | d :: ds, s => (turn d s).bind fun f s => match f with
    | .next => forL turn ds s
    | .cnt => forL turn ds s
    | .brk => .ok .next s
    | .ret d o => .ok (.ret d o) s
def whileL (test : Sta → Out Sta Bool) (turn : Sta → Out Sta Flow) : Nat → Sta → Out Sta Flow
  | 0, _ => .stuck
  | n + 1, s => (test s).bind fun b s => match b with
    | false => .ok .next s
    | true => (turn s).bind fun f s => match f with
      | .next => whileL test turn n s
      | .cnt => whileL test turn n s
      | .brk => .ok .next s
      | .ret d o => .ok (.ret d o) s
/-- values with their flags -/
def evf : Cs → Sta → Out Sta (List (D × Bool))
  | .nil, s => .ok [] s
  | .cons c cs, s => (ev c s).bind fun d s => (evf cs s).bind fun ds s => .ok (d :: ds) s
def setAll (sl : Slots) : List Nat → List (D × Bool) → Option Slots
  | [], [] => some sl
  | i :: is, d :: ds => setAll (sl.set i (some d)) is ds
  | _, _ => none
def setX (xs : List D) (i : D) (d : D) : Option (List D × D) := match i with
  | .int i => (match ixD xs.length i with
    | some j => some (xs.set j d, .non)
    | none => none)
  | _ => none
mutual
def exec : S → Sta → Out Sta Flow
  | .asg i c, s => (ev c s).bind fun d s => .ok .next { s with sl := s.sl.set i (some d) }
  | .unp is c, s => (ev c s).bind fun d s => match tgt s.sl is false d.1 with
    | some sl => .ok .next { s with sl := sl }
    | none => .stuck
  | .par is cs, s => (evf cs s).bind fun ds s => match setAll s.sl is ds with
    | some sl => .ok .next { s with sl := sl }
    | none => .stuck
  | .setix r i c, s => (ev c s).bind fun d s => (opdOf r (ev r) s).bind fun o s => (ev i s).bind fun k s =>
      (chg s o (fun xs => setX xs k.1 d.1)).bind fun _ s => .ok .next s
  | .set2 r1 i1 r2 i2 cs, s => (evs cs s).bind fun ds s => match ds with
    | [d1, d2] => (opdOf r1 (ev r1) s).bind fun o s => (ev i1 s).bind fun k s => (chg s o (fun xs => setX xs k.1 d1)).bind fun _ s =>
      (opdOf r2 (ev r2) s).bind fun o s => (ev i2 s).bind fun k s => (chg s o (fun xs => setX xs k.1 d2)).bind fun _ s => .ok .next s
    | _ => .stuck
  | .exp c, s => (ev c s).bind fun _ s => .ok .next s
  | .ite c a b, s => (ev c s).bind fun d s => match d.1 with
    | .bl true => execs a s
    | .bl false => execs b s
    | _ => .stuck
  | .fr tg one it b, s => (evi it s).bind fun ds s => forL (fun d s => match tgt s.sl tg one d with
    | some sl => execs b { s with sl := sl }
    | none => .stuck) ds s
  | .whl n c b, s => whileL (fun s => (ev c s).bind fun d s => match d.1 with
    | .bl b => .ok b s
    | _ => .stuck) (fun s => execs b s) n s
  | .brk, s => .ok .brk s
  | .cnt, s => .ok .cnt s
  | .pas, s => .ok .next s
  | .ret (.var i), s => match s.sl[i]? with
    | some (some (d, o)) => .ok (.ret d o) s
    | _ => .stuck
  | .ret c, s => (ev c s).bind fun d s => .ok (.ret d.1 d.2) s
  | .retN, s => .ok (.ret .non false) s
  | .never, _ => .stuck
  | .rai c _, s => .exc ⟨c, none⟩ s
def execs : Ss → Sta → Out Sta Flow
  | .nil, s => .ok .next s
  | .cons a r, s => (exec a s).bind fun f s => match f with
    | .next => execs r s
    | .brk => .ok .brk s
    | .cnt => .ok .cnt s
    | .ret d o => .ok (.ret d o) s
end
/-- a def of np parameters and n slots -/
def fnOf (np n : Nat) (b : Ss) : FnD := fun args h =>
  if args.length = np then
    match execs b ⟨args.map (fun d => some (d, false)) ++ List.replicate (n - np) none, h⟩ with
    | .ok (.ret d o) s => .ok (d, o) s.h
    | .ok .next s => .ok (.non, false) s.h
    | .ok _ _ => .stuck
    | .exc x s => .exc x s.h
    | .stuck => .stuck
  else .stuck
end Dd

/-! Dd3: how plain data stand in the heap; what is kept. -/
namespace Dd
open L2 PyProof.Rows PySem.Spec PySem

/-- the ghosts: the addresses of lists that nobody changes any more; where the cells stand -/
structure G where
  F : Addr → Prop
  ms : List Addr
def mutO : HO → Bool
  | .lst _ => true
  | .dK _ => true
  | .dT _ => true
  | .set _ _ => true
  | .ins _ _ _ => true
  | .ext _ => true
  | _ => false
/-- an object of the written part that is a list -/
def WrL (K : PySem.W.Frag) (a : Addr) (vs : List V) : Prop :=
  ∃ (o : Obj) (its : Array Value) (n : Nat), K.lookup a = some o ∧ o.cls = .type "list" ∧ o.dict = none ∧ o.data = .seq its n ∧ its.size ≤ sizeLine ∧ Vals vs its.toList
def WrT (K : PySem.W.Frag) (a : Addr) (vs : List V) : Prop :=
  ∃ (o : Obj) (its : Array Value) (n : Nat), K.lookup a = some o ∧ o.cls = .type "tuple" ∧ o.data = .seq its n ∧ its.size ≤ sizeLine ∧ Vals vs its.toList
/-- a list that stays as it is -/
def FzL (K : PySem.W.Frag) (g : G) (H : Hp) (a : Addr) (vs : List V) : Prop :=
  (H a = some (.lst vs) ∧ g.F a) ∨ (∃ o, H a = some (.frz o (.lst vs))) ∨ WrL K a vs
theorem FzL.sq {K : PySem.W.Frag} {g : G} {H : Hp} {a : Addr} {vs : List V} (h : FzL K g H a vs) : SqL K H a vs := by
  rcases h with ⟨h, _⟩ | ⟨o, h⟩ | h
  · exact .inl (.inl h)
  · exact .inl (.inr ⟨o, h⟩)
  · exact .inr h
def keyD : Key → D
  | .inl i => .int i
  | .inr x => .str x
mutual
inductive Rep (K : PySem.W.Frag) (g : G) (H : Hp) : D → V → Prop
  | non : Rep K g H .non .non
  | bl (b : Bool) : Rep K g H (.bl b) (.bl b)
  | int (i : Int) : Rep K g H (.int i) (.int i)
  | str (s : Str) : Rep K g H (.str s) (.str s)
  | tup {a : Addr} {vs : List V} {xs : List D} : SqT K H a vs → xs.length ≤ sizeLine → Reps K g H xs vs → Rep K g H (.tup xs) (.ref a)
  | lst {a : Addr} {vs : List V} {xs : List D} : H a = some (.lst vs) → g.F a → xs.length ≤ sizeLine → Reps K g H xs vs → Rep K g H (.lst xs) (.ref a)
  | dct {a : Addr} {kvs : List (Key × V)} {vs : List V} {xs : List D} : H a = some (.dK kvs) → g.F a → vs = kvs.map (·.2) → Reps K g H xs vs → Rep K g H (.dct (kvs.map fun kv => keyD kv.1) xs) (.ref a)
  | ref {l : Nat} {a : Addr} : g.ms[l]? = some a → Rep K g H (.ref l) (.ref a)
  | scr {a : Addr} {ns : List Int} : FzL K g H a (ns.map V.int) → Rep K g H (.scr ns) (.ref a)
inductive Reps (K : PySem.W.Frag) (g : G) (H : Hp) : List D → List V → Prop
  | nil : Reps K g H [] []
  | cons {d : D} {v : V} {ds : List D} {vs : List V} : Rep K g H d v → Reps K g H ds vs → Reps K g H (d :: ds) (v :: vs)
end
section
variable {K : PySem.W.Frag} {g : G} {H : Hp}
theorem Reps.length : ∀ {ds : List D} {vs : List V}, Reps K g H ds vs → ds.length = vs.length
  | _, _, .nil => rfl
  | _, _, .cons _ t => by simp only [List.length_cons, Reps.length t]
theorem Reps.get : ∀ {ds : List D} {vs : List V} {i : Nat} {d : D}, Reps K g H ds vs → ds[i]? = some d → ∃ v, vs[i]? = some v ∧ Rep K g H d v
  | _, _, _, _, .nil, e => by simp at e
  | _, _, 0, _, .cons r _, e => by simp at e; subst e; exact ⟨_, rfl, r⟩
  | _, _, i + 1, d, .cons _ t, e => by
    obtain ⟨v, h1, h2⟩ := Reps.get (i := i) (d := d) t (by simpa using e)
    exact ⟨v, by simpa using h1, h2⟩
theorem Reps.getV : ∀ {ds : List D} {vs : List V} {i : Nat} {v : V}, Reps K g H ds vs → vs[i]? = some v → ∃ d, ds[i]? = some d ∧ Rep K g H d v
  | _, _, _, _, .nil, e => by simp at e
  | _, _, 0, _, .cons r _, e => by simp at e; subst e; exact ⟨_, rfl, r⟩
  | _, _, i + 1, v, .cons _ t, e => by
    obtain ⟨d, h1, h2⟩ := Reps.getV (i := i) (v := v) t (by simpa using e)
    exact ⟨d, by simpa using h1, h2⟩
theorem Reps.append : ∀ {ds es : List D} {vs ws : List V}, Reps K g H ds vs → Reps K g H es ws → Reps K g H (ds ++ es) (vs ++ ws)
  | _, _, _, _, .nil, s => s
  | _, _, _, _, .cons r t, s => .cons r (Reps.append t s)
theorem Reps.take : ∀ {ds : List D} {vs : List V} (n : Nat), Reps K g H ds vs → Reps K g H (ds.take n) (vs.take n)
  | _, _, 0, _ => .nil
  | _, _, _ + 1, .nil => .nil
  | _, _, n + 1, .cons r t => .cons r (Reps.take n t)
theorem Reps.drop : ∀ {ds : List D} {vs : List V} (n : Nat), Reps K g H ds vs → Reps K g H (ds.drop n) (vs.drop n)
  | _, _, 0, r => r
  | _, _, _ + 1, .nil => .nil
  | _, _, n + 1, .cons _ t => Reps.drop n t
theorem Reps.eraseIdx : ∀ {ds : List D} {vs : List V} (n : Nat), Reps K g H ds vs → Reps K g H (ds.eraseIdx n) (vs.eraseIdx n)
  | _, _, _, .nil => .nil
  | _, _, 0, .cons _ t => t
  | _, _, n + 1, .cons r t => .cons r (Reps.eraseIdx n t)
theorem Reps.dropLast {ds : List D} {vs : List V} (r : Reps K g H ds vs) : Reps K g H ds.dropLast vs.dropLast := by
  rw [List.dropLast_eq_take, List.dropLast_eq_take, r.length]
  exact r.take _
theorem Reps.set {d : D} {v : V} (q : Rep K g H d v) : ∀ {ds : List D} {vs : List V} (n : Nat), Reps K g H ds vs → Reps K g H (ds.set n d) (vs.set n v)
  | _, _, _, .nil => .nil
  | _, _, 0, .cons _ t => .cons q t
  | _, _, n + 1, .cons r t => .cons r (Reps.set q n t)
theorem Reps.snoc {ds : List D} {vs : List V} {d : D} {v : V} (r : Reps K g H ds vs) (q : Rep K g H d v) : Reps K g H (ds ++ [d]) (vs ++ [v]) := r.append (.cons q .nil)
theorem Reps.ints : ∀ (is : List Int), Reps K g H (is.map D.int) (is.map V.int)
  | [] => .nil
  | i :: is => .cons (.int i) (Reps.ints is)
end

/-- what a piece of code keeps: O, O' the own lists ahead of it and behind -/
structure Keep (O : Addr → Prop) (g : G) (H : Hp) (O' : Addr → Prop) (g' : G) (H' : Hp) : Prop where
  ms : ∃ ext, g'.ms = g.ms ++ ext ∧ ∀ a ∈ ext, H a = none ∨ O a
  fm : ∀ a, g.F a → g'.F a
  ff : ∀ a, g'.F a → g.F a ∨ O a ∨ H a = none
  st : ∀ a o, H a = some o → a ∉ g.ms → ¬ O a → H' a = some o
  ow : ∀ a, O' a → O a ∨ H a = none
  th : ∀ a, H a ≠ none → H' a ≠ none
theorem Keep.refl {O : Addr → Prop} {g : G} {H : Hp} : Keep O g H O g H :=
  ⟨⟨[], by simp, by simp⟩, fun _ h => h, fun _ h => .inl h, fun _ _ h _ _ => h, fun _ h => .inl h, fun _ h => h⟩
theorem Keep.trans {O O1 O2 : Addr → Prop} {g g1 g2 : G} {H H1 H2 : Hp} (k : Keep O g H O1 g1 H1) (l : Keep O1 g1 H1 O2 g2 H2) : Keep O g H O2 g2 H2 := by
  have back : ∀ a, H1 a = none → H a = none := fun a h => by
    cases q : H a with
    | none => rfl
    | some o => exact absurd h (k.th a (by rw [q]; exact Option.some_ne_none o))
  obtain ⟨e1, m1, f1⟩ := k.ms
  obtain ⟨e2, m2, f2⟩ := l.ms
  refine ⟨⟨e1 ++ e2, by rw [m2, m1, List.append_assoc], fun a ha => ?_⟩, fun a h => l.fm a (k.fm a h), fun a h => ?_, fun a o h hm hO => ?_, fun a h => ?_, fun a h => l.th a (k.th a h)⟩
  · rcases List.mem_append.mp ha with h | h
    · exact f1 a h
    · rcases f2 a h with q | q
      · exact .inl (back a q)
      · rcases k.ow a q with z | z
        · exact .inr z
        · exact .inl z
  · rcases l.ff a h with h | h | h
    · exact k.ff a h
    · rcases k.ow a h with h | h
      · exact .inr (.inl h)
      · exact .inr (.inr h)
    · exact .inr (.inr (back a h))
  · refine l.st a o (k.st a o h hm hO) ?_ ?_
    · rw [m1]
      intro q
      rcases List.mem_append.mp q with q | q
      · exact hm q
      · rcases f1 a q with z | z
        · rw [z] at h; cases h
        · exact hO z
    · intro q
      rcases k.ow a q with q | q
      · exact hO q
      · rw [q] at h; cases h
  · rcases l.ow a h with h | h
    · exact k.ow a h
    · exact .inr (back a h)
/-- nothing tracked is changed -/
theorem Keep.same {O : Addr → Prop} {g : G} {H H' : Hp} (h : ∀ a o, H a = some o → H' a = some o) : Keep O g H O g H' :=
  ⟨⟨[], by simp, by simp⟩, fun _ h => h, fun _ h => .inl h, fun a o e _ _ => h a o e, fun _ h => .inl h, fun a e => by
    cases q : H a with
    | none => exact absurd q e
    | some o => rw [h a o q]; exact Option.some_ne_none o⟩

/-- what stands apart -/
structure Apart (O : Addr → Prop) (g : G) (H : Hp) : Prop where
  mu : ∀ a, a ∈ g.ms ∨ O a → ∃ o, H a = some o ∧ mutO o = true
  nF : ∀ a, g.F a → a ∉ g.ms ∧ ¬ O a
  tF : ∀ a, g.F a → ∃ o, H a = some o ∧ mutO o = true
section
variable {K : PySem.W.Frag} {O O' : Addr → Prop} {g g' : G} {H H' : Hp}
theorem Keep.F (k : Keep O g H O' g' H') (p : Apart O g H) {a : Addr} (h : g.F a) : H' a = H a := by
  obtain ⟨o, e, _⟩ := p.tF a h
  rw [e]
  exact k.st a o e (p.nF a h).1 (p.nF a h).2
theorem Keep.fz (k : Keep O g H O' g' H') (p : Apart O g H) {a : Addr} {o : HO} (e : H a = some o) (h : mutO o = false) : H' a = some o := by
  have n : ¬ (a ∈ g.ms ∨ O a) := fun q => by
    obtain ⟨u, e', m⟩ := p.mu a q
    rw [e] at e'; cases e'
    rw [h] at m; cases m
  exact k.st a o e (fun q => n (.inl q)) (fun q => n (.inr q))
theorem Keep.tup (k : Keep O g H O' g' H') (p : Apart O g H) {a : Addr} {vs : List V} (h : SqT K H a vs) : SqT K H' a vs := by
  rcases h with (h | ⟨o, h⟩) | h
  · exact .inl (.inl (k.fz p h rfl))
  · exact .inl (.inr ⟨o, k.fz p h rfl⟩)
  · exact .inr h
theorem Keep.lst (k : Keep O g H O' g' H') (p : Apart O g H) {a : Addr} {vs : List V} (h : FzL K g H a vs) : FzL K g' H' a vs := by
  rcases h with ⟨h, f⟩ | ⟨o, h⟩ | h
  · exact .inl ⟨(k.F p f).trans h, k.fm a f⟩
  · exact .inr (.inl ⟨o, k.fz p h rfl⟩)
  · exact .inr (.inr h)
mutual
theorem Rep.keep (k : Keep O g H O' g' H') (p : Apart O g H) : ∀ {d : D} {v : V}, Rep K g H d v → Rep K g' H' d v
  | _, _, .non => .non
  | _, _, .bl b => .bl b
  | _, _, .int i => .int i
  | _, _, .str s => .str s
  | _, _, .tup h z r => .tup (k.tup p h) z (Reps.keep k p r)
  | _, _, .lst h f z r => .lst ((k.F p f).trans h) (k.fm _ f) z (Reps.keep k p r)
  | _, _, .dct h f e r => .dct ((k.F p f).trans h) (k.fm _ f) e (Reps.keep k p r)
  | _, _, .ref h => .ref (by
      obtain ⟨e, m, _⟩ := k.ms
      rw [m, List.getElem?_append_left (List.getElem?_eq_some_iff.mp h).1]
      exact h)
  | _, _, .scr h => .scr (k.lst p h)
theorem Reps.keep (k : Keep O g H O' g' H') (p : Apart O g H) : ∀ {ds : List D} {vs : List V}, Reps K g H ds vs → Reps K g' H' ds vs
  | _, _, .nil => .nil
  | _, _, .cons r t => .cons (Rep.keep k p r) (Reps.keep k p t)
end
end

section
variable {K : PySem.W.Frag} {g g' : G} {H : Hp}
mutual
/-- more lists that stay -/
theorem Rep.more (f : ∀ a, g.F a → g'.F a) (m : g'.ms = g.ms) : ∀ {d : D} {v : V}, Rep K g H d v → Rep K g' H d v
  | _, _, .non => .non
  | _, _, .bl b => .bl b
  | _, _, .int i => .int i
  | _, _, .str s => .str s
  | _, _, .tup h z r => .tup h z (Reps.more f m r)
  | _, _, .lst h q z r => .lst h (f _ q) z (Reps.more f m r)
  | _, _, .dct h q e r => .dct h (f _ q) e (Reps.more f m r)
  | _, _, .ref h => .ref (by rw [m]; exact h)
  | _, _, .scr h => .scr (h.elim (fun q => .inl ⟨q.1, f _ q.2⟩) .inr)
theorem Reps.more (f : ∀ a, g.F a → g'.F a) (m : g'.ms = g.ms) : ∀ {ds : List D} {vs : List V}, Reps K g H ds vs → Reps K g' H ds vs
  | _, _, .nil => .nil
  | _, _, .cons r t => .cons (Rep.more f m r) (Reps.more f m t)
end
end
/-- what a cell holds stands at a -/
def CoRep (K : PySem.W.Frag) (g : G) (H : Hp) (a : Addr) : CO → Prop
  | .lst xs => ∃ vs, H a = some (.lst vs) ∧ xs.length ≤ sizeLine ∧ Reps K g H xs vs
  | _ => False
structure Cells (K : PySem.W.Frag) (g : G) (h : CH) (H : Hp) : Prop where
  len : g.ms.length = h.length
  nd : g.ms.Nodup
  nF : ∀ a ∈ g.ms, ¬ g.F a
  tF : ∀ a, g.F a → ∃ o, H a = some o ∧ mutO o = true
  at_ : ∀ (l : Nat) a co, g.ms[l]? = some a → h[l]? = some co → CoRep K g H a co
theorem Cells.mu {K : PySem.W.Frag} {g : G} {h : CH} {H : Hp} (c : Cells K g h H) {a : Addr} (ha : a ∈ g.ms) : ∃ o, H a = some o ∧ mutO o = true := by
  obtain ⟨l, hl, e⟩ := List.getElem_of_mem ha
  have q : g.ms[l]? = some a := by rw [List.getElem?_eq_getElem hl, e]
  have hl' : l < h.length := by rw [← c.len]; exact hl
  have r := c.at_ l a h[l] q (List.getElem?_eq_getElem hl')
  cases hc : h[l] with
  | lst xs =>
    rw [hc] at r
    obtain ⟨vs, e, _⟩ := r
    exact ⟨_, e, rfl⟩
  | dct kvs => rw [hc] at r; exact r.elim
  | ins c fs => rw [hc] at r; exact r.elim

/-- the entry of a def -/
structure Ent where
  /-- how many slots -/
  n : Nat
  g0 : G
  H0 : Hp
  xc : Str → Value
def OwnAt (sl : Slots) (σ : L2.St) (i : Nat) (a : Addr) : Prop := ∃ d, sl[i]? = some (some (d, true)) ∧ σ[i]? = some (some (.ref a))
def Own (sl : Slots) (σ : L2.St) (a : Addr) : Prop := ∃ i, OwnAt sl σ i a
def none_ : Addr → Prop := fun _ => False
/-- a slot's value -/
def SlRep (K : PySem.W.Frag) (g : G) (H : Hp) (d : D) (o : Bool) (v : V) : Prop := match o with
  | false => Rep K g H d v
  | true => ∃ xs a vs, d = .lst xs ∧ v = .ref a ∧ H a = some (.lst vs) ∧ xs.length ≤ sizeLine ∧ Reps K g H xs vs
structure SR (K : PySem.W.Frag) (e : Ent) (g : G) (s : Sta) (σ : L2.St) (H : Hp) : Prop where
  keep : Keep none_ e.g0 e.H0 (Own s.sl σ) g H
  ln : s.sl.length = σ.length ∧ s.sl.length = e.n
  slot : ∀ (i : Nat) d o, s.sl[i]? = some (some (d, o)) → ∃ v, σ[i]? = some (some v) ∧ SlRep K g H d o v
  inj : ∀ (i j : Nat) a, OwnAt s.sl σ i a → OwnAt s.sl σ j a → i = j
  cells : Cells K g s.h H
  ownF : ∀ a, Own s.sl σ a → ¬ g.F a ∧ a ∉ g.ms
section
variable {K : PySem.W.Frag} {e : Ent} {g g' : G} {s s' : Sta} {σ : L2.St} {H H' : Hp}
theorem SR.len (r : SR K e g s σ H) : s.sl.length = σ.length := r.ln.1
theorem SR.nn (r : SR K e g s σ H) : s.sl.length = e.n := r.ln.2
theorem SR.own (r : SR K e g s σ H) {a : Addr} (h : Own s.sl σ a) : ∃ vs, H a = some (.lst vs) := by
  obtain ⟨i, d, e1, e2⟩ := h
  obtain ⟨v, e3, q⟩ := r.slot i d true e1
  obtain ⟨xs, b, vs, _, rfl, e4, _⟩ := q
  rw [e2] at e3
  cases e3
  exact ⟨vs, e4⟩
theorem SR.apart (r : SR K e g s σ H) : Apart (Own s.sl σ) g H :=
  ⟨fun a h => h.elim (fun q => r.cells.mu q) fun q => let ⟨vs, e⟩ := r.own q; ⟨_, e, rfl⟩,
    fun a f => ⟨fun q => r.cells.nF a q f, fun q => (r.ownF a q).1 f⟩, r.cells.tF⟩
/-- a result: a value that stays, or a list that is nobody's -/
def RepR (K : PySem.W.Frag) (Hs : Hp) (g : G) (H : Hp) (O : Addr → Prop) (d : D) (o : Bool) (v : V) : Prop := match o with
  | false => Rep K g H d v
  | true => ∃ xs a vs, d = .lst xs ∧ v = .ref a ∧ H a = some (.lst vs) ∧ xs.length ≤ sizeLine ∧ Reps K g H xs vs ∧ ¬ g.F a ∧ a ∉ g.ms ∧ ¬ O a ∧ Hs a = none
/-- the heap has grown: nothing tracked is another -/
theorem Cells.same (c : Cells K g s.h H) (p : Apart (Own s.sl σ) g H) (h : ∀ a o, H a = some o → H' a = some o) : Cells K g s.h H' :=
  ⟨c.len, c.nd, c.nF, fun a f => let ⟨o, e, m⟩ := c.tF a f; ⟨o, h a o e, m⟩, fun l a co e1 e2 => by
    have q := c.at_ l a co e1 e2
    cases co with
    | lst xs =>
      obtain ⟨vs, e, z, r⟩ := q
      exact ⟨vs, h a _ e, z, r.keep (Keep.same (O := Own s.sl σ) h) p⟩
    | dct kvs => exact q
    | ins c fs => exact q⟩
theorem SR.same (r : SR K e g s σ H) (h : ∀ a o, H a = some o → H' a = some o) : SR K e g s σ H' := by
  have p := r.apart
  have k : Keep (Own s.sl σ) g H (Own s.sl σ) g H' := Keep.same h
  refine ⟨r.keep.trans k, r.ln, fun i d o e => ?_, r.inj, r.cells.same p h, r.ownF⟩
  obtain ⟨v, e1, q⟩ := r.slot i d o e
  refine ⟨v, e1, ?_⟩
  cases o with
  | false => exact Rep.keep k p q
  | true =>
    obtain ⟨xs, a, vs, e2, e3, e4, z, t⟩ := q
    exact ⟨xs, a, vs, e2, e3, h a _ e4, z, t.keep k p⟩
theorem SR.fresh0 (r : SR K e g s σ H) {a : Addr} (h : H a = none) : e.H0 a = none := by
  cases q : e.H0 a with
  | none => rfl
  | some o => exact absurd h (r.keep.th a (by rw [q]; exact Option.some_ne_none o))
theorem same_upd {H : Hp} {p : Addr} {o : HO} (h : H p = none) : ∀ a u, H a = some u → upd H p o a = some u := fun a u e => by
  rw [upd_ne (ne_of_none e h)]
  exact e
theorem SR.notF (r : SR K e g s σ H) {a : Addr} (h : H a = none) : ¬ g.F a := fun f => by
  obtain ⟨o, e, _⟩ := r.cells.tF a f
  rw [h] at e; cases e
theorem SR.notM (r : SR K e g s σ H) {a : Addr} (h : H a = none) : a ∉ g.ms := fun q => by
  obtain ⟨o, e, _⟩ := r.cells.mu q
  rw [h] at e; cases e
theorem SR.notO (r : SR K e g s σ H) {a : Addr} (h : H a = none) : ¬ Own s.sl σ a := fun q => by
  obtain ⟨vs, e⟩ := r.own q
  rw [h] at e; cases e
/-- a new tuple -/
theorem SR.newT (r : SR K e g s σ H) {p : Addr} (h : H p = none) {xs : List D} {vs : List V} (t : Reps K g H xs vs) (z : xs.length ≤ sizeLine) :
    Rep K g (upd H p (.tup vs)) (.tup xs) (.ref p) :=
  .tup (.inl (.inl upd_same)) z (t.keep (Keep.same (O := Own s.sl σ) (same_upd h)) r.apart)
/-- a list that is nobody's is from now on anybody's -/
theorem SR.freeze {O0 : Addr → Prop} {g0 : G} {H0 : Hp} {d : D} {o : Bool} {v : V} (r : SR K e g s σ H) (k : Keep O0 g0 H0 (Own s.sl σ) g H) (hn : ∀ a, H0 a = none → e.H0 a = none)
    (q : RepR K H0 g H (Own s.sl σ) d o v) : ∃ g', SR K e g' s σ H ∧ Keep O0 g0 H0 (Own s.sl σ) g' H ∧ Rep K g' H d v := by
  cases o with
  | false => exact ⟨g, r, k, q⟩
  | true =>
    obtain ⟨xs, a, vs, rfl, rfl, e2, z, t, nf, nm, no, h0⟩ := q
    let g' : G := { g with F := fun b => g.F b ∨ b = a }
    have up : ∀ {O : Addr → Prop} {g1 : G} {H1 : Hp}, H1 a = none → Keep O g1 H1 (Own s.sl σ) g H → Keep O g1 H1 (Own s.sl σ) g' H := fun {O g1 H1} hz l =>
      ⟨l.ms, fun b f => .inl (l.fm b f), fun b f => f.elim (l.ff b) fun z => .inr (.inr (by rw [z]; exact hz)), l.st, l.ow, l.th⟩
    have fm : ∀ b, g.F b → g'.F b := fun b f => .inl f
    refine ⟨g', ⟨up (hn a h0) r.keep, r.ln, fun i d o h => ?_, r.inj, ⟨r.cells.len, r.cells.nd, fun b m f => ?_, fun b f => ?_, fun l b co e1 e2 => ?_⟩, fun b h => ⟨fun f => ?_, (r.ownF b h).2⟩⟩, up h0 k, .lst e2 (.inr rfl) z (t.more fm rfl)⟩
    · obtain ⟨v, e1, q⟩ := r.slot i d o h
      refine ⟨v, e1, ?_⟩
      cases o with
      | false => exact Rep.more fm rfl q
      | true =>
        obtain ⟨us, b, ws, e4, e5, e6, z, t⟩ := q
        exact ⟨us, b, ws, e4, e5, e6, z, t.more fm rfl⟩
    · rcases f with f | f
      · exact r.cells.nF b m f
      · exact nm (f ▸ m)
    · rcases f with f | f
      · exact r.cells.tF b f
      · exact ⟨_, by rw [f]; exact e2, rfl⟩
    · have q := r.cells.at_ l b co e1 e2
      cases co with
      | lst us =>
        obtain ⟨ws, e5, z, t⟩ := q
        exact ⟨ws, e5, z, t.more fm rfl⟩
      | dct kvs => exact q.elim
      | ins c fs => exact q.elim
    · rcases f with f | f
      · exact (r.ownF b h).1 f
      · exact no (f ▸ h)
end
end Dd

/-! Dd4: what the steps do to the state. -/
namespace Dd
open L2 PyProof.Rows PySem.Spec PySem

section
variable {K : PySem.W.Frag} {e : Ent} {g g' : G} {s s' : Sta} {σ : L2.St} {H H' : Hp}
theorem own_same {sl sl' : Slots} {σ' : L2.St} (h : ∀ (i : Nat) a, OwnAt sl' σ' i a → OwnAt sl σ i a) : ∀ a, Own sl' σ' a → Own sl σ a := fun a ⟨i, q⟩ => ⟨i, h i a q⟩
/-- fewer own lists, nothing else -/
theorem Keep.less {O O' O2 : Addr → Prop} (k : Keep O g H O' g' H') (h : ∀ a, O2 a → O' a) : Keep O g H O2 g' H' :=
  ⟨k.ms, k.fm, k.ff, k.st, fun a q => k.ow a (h a q), k.th⟩
theorem set_get {α : Type} {l : List α} {i j : Nat} {x y : α} (h : (l.set i x)[j]? = some y) : (j = i ∧ y = x) ∨ (j ≠ i ∧ l[j]? = some y) := by
  by_cases hj : j = i
  · subst hj
    by_cases hl : j < l.length
    · rw [List.getElem?_set_self hl] at h
      cases h
      exact .inl ⟨rfl, rfl⟩
    · rw [List.getElem?_eq_none (by simpa using hl)] at h
      cases h
  · rw [List.getElem?_set_ne (Ne.symm hj)] at h
    exact .inr ⟨hj, h⟩
/-- a slot is given a value -/
theorem SR.set {Hs : Hp} (r : SR K e g s σ H) {i : Nat} {d : D} {o : Bool} {v : V} (hn : ∀ a, Hs a = none → e.H0 a = none) (hi : i < s.sl.length) (q : RepR K Hs g H (Own s.sl σ) d o v) :
    SR K e g { s with sl := s.sl.set i (some (d, o)) } (σ.set i (some v)) H := by
  have hiσ : i < σ.length := by rw [← r.len]; exact hi
  have oa : ∀ (j : Nat) a, OwnAt (s.sl.set i (some (d, o))) (σ.set i (some v)) j a → (j = i ∧ o = true ∧ v = .ref a) ∨ (j ≠ i ∧ OwnAt s.sl σ j a) := by
    rintro j a ⟨d', e1, e2⟩
    rcases set_get e1 with ⟨rfl, ey⟩ | ⟨hj, ey⟩
    · cases ey
      rw [List.getElem?_set_self hiσ] at e2
      cases e2
      exact .inl ⟨rfl, rfl, rfl⟩
    · rw [List.getElem?_set_ne (Ne.symm hj)] at e2
      exact .inr ⟨hj, d', ey, e2⟩
  have fr : ∀ a, o = true → v = .ref a → ¬ g.F a ∧ a ∉ g.ms ∧ ¬ Own s.sl σ a ∧ e.H0 a = none := by
    intro a ho hv
    subst ho
    obtain ⟨xs, b, vs, _, ev, _, _, _, f, m, n, h0⟩ := q
    rw [hv] at ev
    cases ev
    exact ⟨f, m, n, hn _ h0⟩
  refine ⟨⟨r.keep.ms, r.keep.fm, r.keep.ff, r.keep.st, fun a ⟨j, h⟩ => ?_, r.keep.th⟩, ⟨by simp [r.len], by simp [r.nn]⟩, fun j d' o' h => ?_, fun j j' a h h' => ?_, r.cells, fun a ⟨j, h⟩ => ?_⟩
  · rcases oa j a h with ⟨_, ho, hv⟩ | ⟨_, h⟩
    · exact .inr (fr a ho hv).2.2.2
    · exact r.keep.ow a ⟨j, h⟩
  · rcases set_get h with ⟨rfl, ey⟩ | ⟨hj, ey⟩
    · cases ey
      refine ⟨v, by rw [List.getElem?_set_self hiσ], ?_⟩
      cases o with
      | false => exact q
      | true =>
        obtain ⟨xs, b, vs, e1, e2, e3, z, t, _⟩ := q
        exact ⟨xs, b, vs, e1, e2, e3, z, t⟩
    · rw [List.getElem?_set_ne (Ne.symm hj)]
      exact r.slot j d' o' ey
  · rcases oa j a h with ⟨e1, ho, hv⟩ | ⟨n1, h1⟩
    · rcases oa j' a h' with ⟨e2, _, _⟩ | ⟨_, h2⟩
      · rw [e1, e2]
      · exact absurd ⟨j', h2⟩ (fr a ho hv).2.2.1
    · rcases oa j' a h' with ⟨_, ho, hv⟩ | ⟨_, h2⟩
      · exact absurd ⟨j, h1⟩ (fr a ho hv).2.2.1
      · exact r.inj j j' a h1 h2
  · rcases oa j a h with ⟨_, ho, hv⟩ | ⟨_, h⟩
    · exact ⟨(fr a ho hv).1, (fr a ho hv).2.1⟩
    · exact r.ownF a ⟨j, h⟩
/-- a slot is emptied -/
theorem SR.clear (r : SR K e g s σ H) (i : Nat) (x : Option V) : SR K e g { s with sl := s.sl.set i none } (σ.set i x) H := by
  have oa : ∀ (j : Nat) a, OwnAt (s.sl.set i none) (σ.set i x) j a → OwnAt s.sl σ j a := by
    rintro j a ⟨d', e1, e2⟩
    rcases set_get e1 with ⟨rfl, ey⟩ | ⟨hj, ey⟩
    · cases ey
    · rw [List.getElem?_set_ne (Ne.symm hj)] at e2
      exact ⟨d', ey, e2⟩
  refine ⟨r.keep.less (own_same oa), ⟨by simp [r.len], by simp [r.nn]⟩, fun j d' o' h => ?_, fun j j' a h h' => r.inj j j' a (oa j a h) (oa j' a h'), r.cells, fun a h => r.ownF a (own_same oa a h)⟩
  rcases set_get h with ⟨rfl, ey⟩ | ⟨hj, ey⟩
  · cases ey
  · rw [List.getElem?_set_ne (Ne.symm hj)]
    exact r.slot j d' o' ey
theorem SR.wipe (r : SR K e g s σ H) : ∀ vs : List Nat, SR K e g { s with sl := wipeD s.sl vs } (wipe σ vs) H
  | [] => r
  | v :: vs => (SR.wipe r vs).clear v none
/-- the heap is another: what a call, a new object did -/
theorem SR.call (r : SR K e g s σ H) {O2 : Addr → Prop} {h' : CH} (k : Keep none_ g H O2 g' H') (c : Cells K g' h' H') :
    SR K e g' { s with h := h' } σ H' ∧ Keep (Own s.sl σ) g H (Own s.sl σ) g' H' := by
  have k' : Keep (Own s.sl σ) g H (Own s.sl σ) g' H' :=
    ⟨(by
      obtain ⟨ext, em, fm⟩ := k.ms
      exact ⟨ext, em, fun a h => (fm a h).elim .inl fun z => z.elim⟩), k.fm, fun a f => (k.ff a f).elim .inl fun q => q.elim False.elim fun q => .inr (.inr q), fun a o h m _ => k.st a o h m fun q => q, fun a h => .inl h, k.th⟩
  have kO : ∀ a vs, Own s.sl σ a → H a = some (.lst vs) → H' a = some (.lst vs) := fun a vs h q => k.st a _ q (r.ownF a h).2 fun q => q
  refine ⟨⟨r.keep.trans k', r.ln, fun i d o h => ?_, r.inj, c, fun a h => ?_⟩, k'⟩
  · obtain ⟨v, e1, q⟩ := r.slot i d o h
    refine ⟨v, e1, ?_⟩
    cases o with
    | false => exact Rep.keep k' r.apart q
    | true =>
      obtain ⟨xs, a, vs, e2, e3, e4, z, t⟩ := q
      subst e3
      exact ⟨xs, a, vs, e2, rfl, kO a vs ⟨i, d, h, e1⟩ e4, z, t.keep k' r.apart⟩
  · obtain ⟨vs, hv⟩ := r.own h
    refine ⟨fun f => ?_, fun m => ?_⟩
    · rcases k.ff a f with q | q | q
      · exact (r.ownF a h).1 q
      · exact q
      · rw [hv] at q; cases q
    · obtain ⟨ext, em, fm⟩ := k.ms
      rw [em] at m
      rcases List.mem_append.mp m with m | m
      · exact (r.ownF a h).2 m
      · rcases fm a m with z | z
        · rw [z] at hv; cases hv
        · exact z
/-- a cell's list is another -/
theorem SR.setCell (r : SR K e g s σ H) {l : Nat} {a : Addr} {xs ys : List D} {ws : List V} (hm : g.ms[l]? = some a) (hl : s.h[l]? = some (.lst xs)) (z : ys.length ≤ sizeLine) (t : Reps K g H ys ws) :
    SR K e g { s with h := s.h.set l (.lst ys) } σ (upd H a (.lst ws)) ∧ Keep (Own s.sl σ) g H (Own s.sl σ) g (upd H a (.lst ws)) := by
  have ma : a ∈ g.ms := List.mem_of_getElem? hm
  have k : Keep (Own s.sl σ) g H (Own s.sl σ) g (upd H a (.lst ws)) :=
    ⟨⟨[], by simp, by simp⟩, fun _ h => h, fun _ h => .inl h, fun b o h m _ => by rw [upd_ne (fun q : b = a => m (by rw [q]; exact ma))]; exact h, fun _ h => .inl h, fun b h => by
      by_cases hb : b = a
      · rw [hb, upd_same]; exact Option.some_ne_none _
      · rw [upd_ne hb]; exact h⟩
  have tr : ∀ b o, H b = some o → mutO o = true → ∃ o', upd H a (.lst ws) b = some o' ∧ mutO o' = true := fun b o h m => by
    by_cases hb : b = a
    · exact ⟨_, by rw [hb, upd_same], rfl⟩
    · exact ⟨o, by rw [upd_ne hb]; exact h, m⟩
  refine ⟨⟨r.keep.trans k, r.ln, fun i d o h => ?_, r.inj, ⟨by simp [r.cells.len], r.cells.nd, r.cells.nF, fun b f => ?_, fun l' b co e1 e2 => ?_⟩, r.ownF⟩, k⟩
  · obtain ⟨v, e1, q⟩ := r.slot i d o h
    refine ⟨v, e1, ?_⟩
    cases o with
    | false => exact Rep.keep k r.apart q
    | true =>
      obtain ⟨xs, b, vs, e2, e3, e4, z, t⟩ := q
      subst e3
      refine ⟨xs, b, vs, e2, rfl, ?_, z, t.keep k r.apart⟩
      rw [upd_ne]
      · exact e4
      · rintro rfl
        exact (r.ownF b ⟨i, d, h, e1⟩).2 ma
  · obtain ⟨o, h, m⟩ := r.cells.tF b f
    exact tr b o h m
  · rcases set_get e2 with ⟨rfl, ey⟩ | ⟨hj, ey⟩
    · rw [hm] at e1
      cases e1
      subst ey
      exact ⟨ws, upd_same, z, t.keep k r.apart⟩
    · have ne : b ≠ a := by
        rintro rfl
        obtain ⟨h1, q1⟩ := List.getElem?_eq_some_iff.mp e1
        obtain ⟨h2, q2⟩ := List.getElem?_eq_some_iff.mp hm
        exact hj ((List.getElem_inj r.cells.nd).mp (q1.trans q2.symm))
      have q := r.cells.at_ l' b co e1 ey
      cases co with
      | lst us =>
        obtain ⟨vs, e3, z, t⟩ := q
        exact ⟨vs, by rw [upd_ne ne]; exact e3, z, t.keep k r.apart⟩
      | dct kvs => exact q.elim
      | ins c fs => exact q.elim
/-- a slot's own list is another -/
theorem SR.setOwn (r : SR K e g s σ H) {i : Nat} {a : Addr} {xs ys : List D} {ws : List V} (hs : s.sl[i]? = some (some (.lst xs, true))) (hσ : σ[i]? = some (some (.ref a))) (z : ys.length ≤ sizeLine) (t : Reps K g H ys ws) :
    SR K e g { s with sl := s.sl.set i (some (.lst ys, true)) } σ (upd H a (.lst ws)) ∧ Keep (Own s.sl σ) g H (Own (s.sl.set i (some (.lst ys, true))) σ) g (upd H a (.lst ws)) := by
  have hi : i < s.sl.length := (List.getElem?_eq_some_iff.mp hs).1
  have own : OwnAt s.sl σ i a := ⟨_, hs, hσ⟩
  have oa : ∀ (j : Nat) b, OwnAt (s.sl.set i (some (.lst ys, true))) σ j b → OwnAt s.sl σ j b := by
    rintro j b ⟨d', e1, e2⟩
    rcases set_get e1 with ⟨rfl, ey⟩ | ⟨hj, ey⟩
    · exact ⟨_, hs, e2⟩
    · exact ⟨d', ey, e2⟩
  have k : Keep (Own s.sl σ) g H (Own (s.sl.set i (some (.lst ys, true))) σ) g (upd H a (.lst ws)) :=
    ⟨⟨[], by simp, by simp⟩, fun _ h => h, fun _ h => .inl h, fun b o h m n => by rw [upd_ne (fun q : b = a => n ⟨i, by rw [q]; exact own⟩)]; exact h, fun b h => .inl (own_same oa b h), fun b h => by
      by_cases hb : b = a
      · rw [hb, upd_same]; exact Option.some_ne_none _
      · rw [upd_ne hb]; exact h⟩
  have nm : a ∉ g.ms := (r.ownF a ⟨i, own⟩).2
  have nf : ¬ g.F a := (r.ownF a ⟨i, own⟩).1
  refine ⟨⟨r.keep.trans k, ⟨by simp [r.len], by simp [r.nn]⟩, fun j d o h => ?_, fun j j' b h h' => r.inj j j' b (oa j b h) (oa j' b h'), ⟨r.cells.len, r.cells.nd, r.cells.nF, fun b f => ?_, fun l b co e1 e2 => ?_⟩, fun b h => r.ownF b (own_same oa b h)⟩, k⟩
  · rcases set_get h with ⟨rfl, ey⟩ | ⟨hj, ey⟩
    · cases ey
      exact ⟨.ref a, hσ, ys, a, ws, rfl, rfl, upd_same, z, t.keep k r.apart⟩
    · obtain ⟨v, e1, q⟩ := r.slot j d o ey
      refine ⟨v, e1, ?_⟩
      cases o with
      | false => exact Rep.keep k r.apart q
      | true =>
        obtain ⟨us, b, vs, e2, e3, e4, z, t⟩ := q
        subst e3
        refine ⟨us, b, vs, e2, rfl, ?_, z, t.keep k r.apart⟩
        rw [upd_ne]
        · exact e4
        · rintro rfl
          exact hj (r.inj j i b ⟨_, ey, e1⟩ own)
  · obtain ⟨o, h, m⟩ := r.cells.tF b f
    exact ⟨o, by rw [upd_ne (fun q : b = a => nf (by rw [← q]; exact f))]; exact h, m⟩
  · have q := r.cells.at_ l b co e1 e2
    have ne : b ≠ a := fun q => nm (q ▸ List.mem_of_getElem? e1)
    cases co with
    | lst us =>
      obtain ⟨vs, e3, z, t⟩ := q
      exact ⟨vs, by rw [upd_ne ne]; exact e3, z, t.keep k r.apart⟩
    | dct kvs => exact q.elim
    | ins c fs => exact q.elim
/-- a new cell -/
theorem SR.newCell (r : SR K e g s σ H) {p : Addr} {xs : List D} {vs : List V} (hp : H p = none) (z : xs.length ≤ sizeLine) (t : Reps K g H xs vs) :
    SR K e { g with ms := g.ms ++ [p] } { s with h := s.h ++ [.lst xs] } σ (upd H p (.lst vs)) ∧ Keep (Own s.sl σ) g H (Own s.sl σ) { g with ms := g.ms ++ [p] } (upd H p (.lst vs)) ∧
      Rep K { g with ms := g.ms ++ [p] } (upd H p (.lst vs)) (.ref s.h.length) (.ref p) := by
  have sm := same_upd (o := HO.lst vs) hp
  have k : Keep (Own s.sl σ) g H (Own s.sl σ) { g with ms := g.ms ++ [p] } (upd H p (.lst vs)) :=
    ⟨⟨[p], rfl, fun a h => by rw [List.mem_singleton.mp h]; exact .inl hp⟩, fun _ h => h, fun _ h => .inl h, fun a o h _ _ => sm a o h, fun _ h => .inl h, fun a h => by
      cases q : H a with
      | none => exact absurd q h
      | some o => rw [sm a o q]; exact Option.some_ne_none _⟩
  refine ⟨⟨r.keep.trans k, r.ln, fun i d o h => ?_, r.inj, ⟨by simp [r.cells.len], ?_, fun a h => ?_, fun a f => ?_, fun l a co e1 e2 => ?_⟩, fun a h => ?_⟩, k, .ref ?_⟩
  · obtain ⟨v, e1, q⟩ := r.slot i d o h
    refine ⟨v, e1, ?_⟩
    cases o with
    | false => exact Rep.keep k r.apart q
    | true =>
      obtain ⟨xs, b, vs, e2, e3, e4, z, t⟩ := q
      exact ⟨xs, b, vs, e2, e3, sm b _ e4, z, t.keep k r.apart⟩
  · rw [List.nodup_append]
    exact ⟨r.cells.nd, by simp, fun a h b hb e => r.notM hp (by rw [← List.mem_singleton.mp hb, ← e]; exact h)⟩
  · rcases List.mem_append.mp h with h | h
    · exact r.cells.nF a h
    · rw [List.mem_singleton.mp h]
      exact r.notF hp
  · obtain ⟨o, h, m⟩ := r.cells.tF a f
    exact ⟨o, sm a o h, m⟩
  · by_cases hl : l < g.ms.length
    · rw [List.getElem?_append_left hl] at e1
      rw [List.getElem?_append_left (by rw [← r.cells.len]; exact hl)] at e2
      have q := r.cells.at_ l a co e1 e2
      cases co with
      | lst us =>
        obtain ⟨ws, e3, z, t⟩ := q
        exact ⟨ws, sm a _ e3, z, t.keep k r.apart⟩
      | dct kvs => exact q.elim
      | ins c fs => exact q.elim
    · have hl' : g.ms.length ≤ l := Nat.le_of_not_lt hl
      rw [List.getElem?_append_right hl'] at e1
      rw [List.getElem?_append_right (by rw [← r.cells.len]; exact hl'), ← r.cells.len] at e2
      have h0 : l - g.ms.length = 0 := by
        have := (List.getElem?_eq_some_iff.mp e1).1
        simp at this
        omega
      rw [h0] at e1 e2
      simp at e1 e2
      subst e1 e2
      exact ⟨vs, upd_same, z, t.keep k r.apart⟩
  · refine ⟨(r.ownF a h).1, fun m => ?_⟩
    rcases List.mem_append.mp m with m | m
    · exact (r.ownF a h).2 m
    · rw [List.mem_singleton.mp m] at h
      exact r.notO hp h
  · show (g.ms ++ [p])[s.h.length]? = some p
    rw [← r.cells.len]
    simp
/-- a slot's value, from now on anybody's -/
theorem SR.loose (r : SR K e g s σ H) {i : Nat} {d : D} (hv : s.sl.val i = some d) :
    ∃ g' v, SR K e g' { s with sl := s.sl.loose i } σ H ∧ Keep (Own s.sl σ) g H (Own (s.sl.loose i) σ) g' H ∧ σ[i]? = some (some v) ∧ Rep K g' H d v := by
  unfold Slots.val at hv
  cases hs : s.sl[i]? with
  | none => rw [hs] at hv; cases hv
  | some x =>
    cases x with
    | none => rw [hs] at hv; cases hv
    | some p =>
      obtain ⟨d', o⟩ := p
      rw [hs] at hv
      cases hv
      obtain ⟨v, e1, q⟩ := r.slot i d o hs
      cases o with
      | false =>
        have el : s.sl.loose i = s.sl := by unfold Slots.loose; rw [hs]
        refine ⟨g, v, ?_, ?_, e1, q⟩
        · rw [el]; exact r
        · rw [el]; exact Keep.refl
      | true =>
        obtain ⟨xs, a, vs, rfl, rfl, e2, z, t⟩ := q
        have el : s.sl.loose i = s.sl.set i (some (.lst xs, false)) := by unfold Slots.loose; rw [hs]
        have own : OwnAt s.sl σ i a := ⟨_, hs, e1⟩
        have oa : ∀ (j : Nat) b, OwnAt (s.sl.set i (some (.lst xs, false))) σ j b → OwnAt s.sl σ j b ∧ j ≠ i := by
          rintro j b ⟨d', e3, e4⟩
          rcases set_get e3 with ⟨rfl, ey⟩ | ⟨hj, ey⟩
          · cases ey
          · exact ⟨⟨d', ey, e4⟩, hj⟩
        have oa' : ∀ (j : Nat) b, OwnAt (s.sl.set i (some (.lst xs, false))) σ j b → OwnAt s.sl σ j b := fun j b h => (oa j b h).1
        let g' : G := { g with F := fun b => g.F b ∨ b = a }
        have k : Keep (Own s.sl σ) g H (Own (s.sl.set i (some (.lst xs, false))) σ) g' H :=
          ⟨⟨[], by simp [g'], by simp⟩, fun _ h => .inl h, fun b h => h.elim .inl fun q => .inr (.inl ⟨i, q ▸ own⟩), fun b o h _ _ => h, fun b h => .inl (own_same oa' b h), fun _ h => h⟩
        have rep : Rep K g' H (.lst xs) (.ref a) := .lst e2 (.inr rfl) z (t.keep k r.apart)
        rw [el]
        refine ⟨g', .ref a, ⟨r.keep.trans k, ⟨by simp [r.len], by simp [r.nn]⟩, fun j d o h => ?_, fun j j' b h h' => r.inj j j' b (oa' j b h) (oa' j' b h'), ⟨r.cells.len, r.cells.nd, fun b m f => ?_, fun b f => ?_, fun l b co e3 e4 => ?_⟩, fun b h => ?_⟩, k, e1, rep⟩
        · rcases set_get h with ⟨rfl, ey⟩ | ⟨hj, ey⟩
          · cases ey
            exact ⟨.ref a, e1, rep⟩
          · obtain ⟨v, e3, q⟩ := r.slot j d o ey
            refine ⟨v, e3, ?_⟩
            cases o with
            | false => exact Rep.keep k r.apart q
            | true =>
              obtain ⟨us, b, vs, e4, e5, e6, z, t⟩ := q
              exact ⟨us, b, vs, e4, e5, e6, z, t.keep k r.apart⟩
        · rcases f with f | f
          · exact r.cells.nF b m f
          · exact (r.ownF a ⟨i, own⟩).2 (f ▸ m)
        · rcases f with f | f
          · exact r.cells.tF b f
          · exact ⟨_, by rw [f]; exact e2, rfl⟩
        · have q := r.cells.at_ l b co e3 e4
          cases co with
          | lst us =>
            obtain ⟨ws, e5, z, t⟩ := q
            exact ⟨ws, e5, z, t.keep k r.apart⟩
          | dct kvs => exact q.elim
          | ins c fs => exact q.elim
        · obtain ⟨j, h⟩ := h
          obtain ⟨h1, h2⟩ := oa j b h
          refine ⟨fun f => ?_, (r.ownF b ⟨j, h1⟩).2⟩
          rcases f with f | f
          · exact (r.ownF b ⟨j, h1⟩).1 f
          · exact h2 (r.inj j i a (f ▸ h1) own)
/-- a slot's own list is made a cell -/
theorem SR.share (r : SR K e g s σ H) {i : Nat} {xs : List D} (hs : s.sl[i]? = some (some (.lst xs, true))) :
    ∃ a, σ[i]? = some (some (.ref a)) ∧ SR K e { g with ms := g.ms ++ [a] } ⟨s.sl.set i (some (.ref s.h.length, false)), s.h ++ [.lst xs]⟩ σ H ∧ Keep (Own s.sl σ) g H (Own (s.sl.set i (some (.ref s.h.length, false))) σ) { g with ms := g.ms ++ [a] } H ∧
      Rep K { g with ms := g.ms ++ [a] } H (.ref s.h.length) (.ref a) := by
  obtain ⟨v, e1, q⟩ := r.slot i _ true hs
  obtain ⟨xs', a, vs, ex, rfl, e2, z, t⟩ := q
  cases ex
  have own : OwnAt s.sl σ i a := ⟨_, hs, e1⟩
  obtain ⟨nf, nm⟩ := r.ownF a ⟨i, own⟩
  have oa : ∀ (j : Nat) b, OwnAt (s.sl.set i (some (.ref s.h.length, false))) σ j b → OwnAt s.sl σ j b ∧ j ≠ i := by
    rintro j b ⟨d', e3, e4⟩
    rcases set_get e3 with ⟨rfl, ey⟩ | ⟨hj, ey⟩
    · cases ey
    · exact ⟨⟨d', ey, e4⟩, hj⟩
  have oa' : ∀ (j : Nat) b, OwnAt (s.sl.set i (some (.ref s.h.length, false))) σ j b → OwnAt s.sl σ j b := fun j b h => (oa j b h).1
  have k : Keep (Own s.sl σ) g H (Own (s.sl.set i (some (.ref s.h.length, false))) σ) { g with ms := g.ms ++ [a] } H :=
    ⟨⟨[a], rfl, fun b h => by rw [List.mem_singleton.mp h]; exact .inr ⟨i, own⟩⟩, fun _ h => h, fun _ h => .inl h, fun b o h _ _ => h, fun b h => .inl (own_same oa' b h), fun _ h => h⟩
  have rep : Rep K { g with ms := g.ms ++ [a] } H (.ref s.h.length) (.ref a) := .ref (by
    show (g.ms ++ [a])[s.h.length]? = some a
    rw [← r.cells.len]
    simp)
  refine ⟨a, e1, ⟨r.keep.trans k, ⟨by simp [r.len], by simp [r.nn]⟩, fun j d o h => ?_, fun j j' b h h' => r.inj j j' b (oa' j b h) (oa' j' b h'), ⟨by simp [r.cells.len], ?_, fun b h => ?_, fun b f => r.cells.tF b f, fun l b co e3 e4 => ?_⟩, fun b h => ?_⟩, k, rep⟩
  · rcases set_get h with ⟨rfl, ey⟩ | ⟨hj, ey⟩
    · cases ey
      exact ⟨.ref a, e1, rep⟩
    · obtain ⟨v, e3, q⟩ := r.slot j d o ey
      refine ⟨v, e3, ?_⟩
      cases o with
      | false => exact Rep.keep k r.apart q
      | true =>
        obtain ⟨us, b, vs, e4, e5, e6, z, t⟩ := q
        exact ⟨us, b, vs, e4, e5, e6, z, t.keep k r.apart⟩
  · rw [List.nodup_append]
    exact ⟨r.cells.nd, by simp, fun b h c hc e => nm (by rw [← List.mem_singleton.mp hc, ← e]; exact h)⟩
  · rcases List.mem_append.mp h with h | h
    · exact r.cells.nF b h
    · rw [List.mem_singleton.mp h]
      exact nf
  · by_cases hl : l < g.ms.length
    · rw [List.getElem?_append_left hl] at e3
      rw [List.getElem?_append_left (by rw [← r.cells.len]; exact hl)] at e4
      have q := r.cells.at_ l b co e3 e4
      cases co with
      | lst us =>
        obtain ⟨ws, e5, z, t⟩ := q
        exact ⟨ws, e5, z, t.keep k r.apart⟩
      | dct kvs => exact q.elim
      | ins c fs => exact q.elim
    · have hl' : g.ms.length ≤ l := Nat.le_of_not_lt hl
      rw [List.getElem?_append_right hl'] at e3
      rw [List.getElem?_append_right (by rw [← r.cells.len]; exact hl'), ← r.cells.len] at e4
      have h0 : l - g.ms.length = 0 := by
        have := (List.getElem?_eq_some_iff.mp e3).1
        simp at this
        omega
      rw [h0] at e3 e4
      simp at e3 e4
      subst e3 e4
      exact ⟨vs, e2, z, t.keep k r.apart⟩
  · obtain ⟨j, h⟩ := h
    obtain ⟨h1, h2⟩ := oa j b h
    refine ⟨(r.ownF b ⟨j, h1⟩).1, fun m => ?_⟩
    rcases List.mem_append.mp m with m | m
    · exact (r.ownF b ⟨j, h1⟩).2 m
    · rw [List.mem_singleton.mp m] at h1
      exact h2 (r.inj j i a h1 own)
end
end Dd

/-! Dd5: the primitive operations by values: what the machine does is what P.app tells. -/
namespace Dd
open L2 PyProof.Rows PySem.Spec PySem

theorem SZ_eq : SZ = sizeLine := by rw [sizeLine_eq]
/-- a value that is read: a list may be anybody's -/
def RepB (K : PySem.W.Frag) (g : G) (H : Hp) : D → V → Prop
  | .lst xs, v => ∃ a vs, v = .ref a ∧ H a = some (.lst vs) ∧ xs.length ≤ sizeLine ∧ Reps K g H xs vs
  | d, v => Rep K g H d v
theorem Rep.b {K : PySem.W.Frag} {g : G} {H : Hp} {d : D} {v : V} (r : Rep K g H d v) : RepB K g H d v := by
  cases r with
  | lst h f z r => exact ⟨_, _, rfl, h, z, r⟩
  | non => exact .non
  | bl b => exact .bl b
  | int i => exact .int i
  | str s => exact .str s
  | tup h z r => exact .tup h z r
  | dct h f e r => exact .dct h f e r
  | ref h => exact .ref h
  | scr h => exact .scr h
inductive RepBs (K : PySem.W.Frag) (g : G) (H : Hp) : List D → List V → Prop
  | nil : RepBs K g H [] []
  | cons {d : D} {v : V} {ds : List D} {vs : List V} : RepB K g H d v → RepBs K g H ds vs → RepBs K g H (d :: ds) (v :: vs)
/-- what comes new: a value that stays, or a new list -/
def NewR (K : PySem.W.Frag) (g : G) (H H' : Hp) (d : D) (o : Bool) (v : V) : Prop := match o with
  | false => Rep K g H' d v
  | true => ∃ xs a vs, d = .lst xs ∧ v = .ref a ∧ H a = none ∧ H' a = some (.lst vs) ∧ xs.length ≤ sizeLine ∧ Reps K g H' xs vs
def Grow (H H' : Hp) : Prop := ∀ a u, H a = some u → H' a = some u
/-- a primitive by values -/
def rP (K : PySem.W.Frag) (p : P) : List V → Hp → VK → Prop := fun vs H Q => ∃ (g : G) (O : Addr → Prop) (ds : List D) (d : D) (o : Bool), Apart O g H ∧ RepBs K g H ds vs ∧ p.app ds = some (d, o) ∧
  ∀ v H', Grow H H' → NewR K g H H' d o v → Q v H'
abbrev rP2 (K : PySem.W.Frag) (p : P) : R2 := fun x y H Q => rP K p [x, y] H Q
abbrev rP1 (K : PySem.W.Frag) (p : P) : V → Hp → VK → Prop := fun x H Q => rP K p [x] H Q

section
variable {K : PySem.W.Frag} {g : G} {H H' : Hp} {O : Addr → Prop}
theorem Grow.refl : Grow H H := fun _ _ h => h
theorem RepBs.one {d : D} {vs : List V} (r : RepBs K g H [d] vs) : ∃ v, vs = [v] ∧ RepB K g H d v := by
  cases r with
  | cons a r => cases r; exact ⟨_, rfl, a⟩
theorem RepBs.two {d e : D} {vs : List V} (r : RepBs K g H [d, e] vs) : ∃ v w, vs = [v, w] ∧ RepB K g H d v ∧ RepB K g H e w := by
  cases r with
  | cons a r => cases r with
    | cons b r => cases r; exact ⟨_, _, rfl, a, b⟩
theorem RepBs.three {d e f : D} {vs : List V} (r : RepBs K g H [d, e, f] vs) : ∃ u v w, vs = [u, v, w] ∧ RepB K g H d u ∧ RepB K g H e v ∧ RepB K g H f w := by
  cases r with
  | cons a r => cases r with
    | cons b r => cases r with
      | cons c r => cases r; exact ⟨_, _, _, rfl, a, b, c⟩
theorem RepBs.length : ∀ {ds : List D} {vs : List V}, RepBs K g H ds vs → ds.length = vs.length
  | _, _, .nil => rfl
  | _, _, .cons _ t => by simp only [List.length_cons, RepBs.length t]
theorem RepB.int_ {i : Int} {v : V} (r : RepB K g H (.int i) v) : v = .int i := by cases r; rfl
theorem RepB.bl_ {b : Bool} {v : V} (r : RepB K g H (.bl b) v) : v = .bl b := by cases r; rfl
theorem RepB.str_ {z : Str} {v : V} (r : RepB K g H (.str z) v) : v = .str z := by cases r; rfl
theorem RepB.non_ {v : V} (r : RepB K g H .non v) : v = .non := by cases r; rfl
theorem RepB.tup_ {xs : List D} {v : V} (r : RepB K g H (.tup xs) v) : ∃ a vs, v = .ref a ∧ SqT K H a vs ∧ xs.length ≤ sizeLine ∧ Reps K g H xs vs := by
  cases r with
  | tup h z r => exact ⟨_, _, rfl, h, z, r⟩
theorem RepB.lst_ {xs : List D} {v : V} (r : RepB K g H (.lst xs) v) : ∃ a vs, v = .ref a ∧ H a = some (.lst vs) ∧ xs.length ≤ sizeLine ∧ Reps K g H xs vs := r
theorem RepB.scr_ {ns : List Int} {v : V} (r : RepB K g H (.scr ns) v) : ∃ a, v = .ref a ∧ SqL K H a (ns.map V.int) := by
  cases r with
  | scr h => exact ⟨_, rfl, h.sq⟩
theorem newT (p : Apart O g H) {a : Addr} (h : H a = none) {xs : List D} {vs : List V} (t : Reps K g H xs vs) (z : xs.length ≤ sizeLine) : NewR K g H (upd H a (.tup vs)) (.tup xs) false (.ref a) :=
  .tup (.inl (.inl upd_same)) z (t.keep (Keep.same (O := O) (same_upd h)) p)
theorem newL (p : Apart O g H) {a : Addr} (h : H a = none) {xs : List D} {vs : List V} (t : Reps K g H xs vs) (z : xs.length ≤ sizeLine) : NewR K g H (upd H a (.lst vs)) (.lst xs) true (.ref a) :=
  ⟨xs, a, vs, rfl, rfl, h, upd_same, z, t.keep (Keep.same (O := O) (same_upd h)) p⟩
theorem cut_len {α : Type} (xs : List α) (lo hi : Option Int) : (cutD xs lo hi).length ≤ xs.length := by
  unfold cutD
  rw [List.length_take, List.length_drop]
  omega
theorem Reps.cut {xs : List D} {vs : List V} (r : Reps K g H xs vs) (lo hi : Option Int) : Reps K g H (cutD xs lo hi) (cutV vs lo hi) := by
  unfold cutD cutV
  rw [r.length]
  exact (r.drop _).take _
theorem sIx_same (n d : Nat) (o : Option Int) : sIxD n d o = HT.sIx n d o := rfl
theorem ixD_same (n : Nat) (i : Int) : ixD n i = ixN n i := rfl
theorem getI_atI {xs : List D} {vs : List V} (r : Reps K g H xs vs) {i : Int} {d : D} (h : getI xs i = some d) : ∃ v, atI vs i = some v ∧ Rep K g H d v := by
  unfold getI at h
  cases q : ixD xs.length i with
  | none => rw [q] at h; cases h
  | some j =>
    rw [q] at h
    obtain ⟨v, e, rv⟩ := r.get (show xs[j]? = some d from h)
    refine ⟨v, ?_, rv⟩
    unfold atI
    rw [← r.length, ← ixD_same, q]
    exact e
end
theorem list2 {α : Type} {a b c d : α} (h : [a, b] = [c, d]) : a = c ∧ b = d := by
  injection h with h1 h2
  injection h2 with h3 _
  exact ⟨h1, h3⟩
theorem list1 {α : Type} {a c : α} (h : [a] = [c]) : a = c := by
  injection h

section
variable {X : Cx}
/-- two ints in, a value that needs no heap out -/
theorem two_int {f : Value → Value → Sem Value} {p : P} {r : R2} (ho : OpR X f r)
    (h : ∀ (ds : List D) d o, p.app ds = some (d, o) → ∃ i j v, ds = [.int i, .int j] ∧ o = false ∧ (∀ K g H, Rep K g H d v) ∧ ∀ (H : Hp) (Q : VK), Q v H → r (.int i) (.int j) H Q) : OpR X f (rP2 X.K p) := by
  intro pins s σ H x y v u Q I rx ry ⟨g, O, ds, d, o, ap, bs, ha, k⟩
  obtain ⟨i, j, w, rfl, rfl, rep, hr⟩ := h ds d o ha
  obtain ⟨x', y', e, bx, by'⟩ := bs.two
  obtain ⟨e1, e2⟩ := list2 e
  subst e1 e2
  rw [bx.int_] at rx
  rw [by'.int_] at ry
  exact ho pins s σ H _ _ v u Q I rx ry (hr H Q (k w H Grow.refl (rep _ _ _)))
theorem p_sub : OpR X (binaryOp .Sub) (rP2 X.K .sub) := two_int op_sub fun ds d o h => by
  simp only [P.app, aSub] at h
  split at h
  · cases h
    exact ⟨_, _, .int _, rfl, rfl, fun _ _ _ => .int _, fun H Q q => ⟨_, _, rfl, rfl, q⟩⟩
  · cases h
theorem Reps.rep {K : PySem.W.Frag} {g : G} {H : Hp} {xs : List D} {vs : List V} (r : Reps K g H xs vs) : ∀ n : Nat, Reps K g H (List.replicate n xs).flatten (List.replicate n vs).flatten
  | 0 => .nil
  | n + 1 => by
    rw [List.replicate_succ, List.replicate_succ, List.flatten_cons, List.flatten_cons]
    exact r.append (r.rep n)
theorem p_mul : OpR X (binaryOp .Mult) (rP2 X.K .mul) := by
  intro pins s σ H x y v u Q I rx ry ⟨g, O, ds, d, o, ap, bs, ha, k⟩
  simp only [P.app, aMul] at ha
  split at ha
  · split at ha
    · rename_i hc
      cases ha
      obtain ⟨x', y', e, bx, by'⟩ := bs.two
      obtain ⟨e1, e2⟩ := list2 e
      subst e1 e2
      rw [bx.int_] at rx
      rw [by'.int_] at ry
      refine op_mul pins s σ H _ _ v u Q I rx ry ⟨_, _, rfl, rfl, ?_, k _ H Grow.refl (Rep.int _)⟩
      unfold CMul
      omega
    · cases ha
  · split at ha
    · rename_i xs n hc
      obtain ⟨c1, c2, c3⟩ := hc
      rw [SZ_eq] at c3
      cases ha
      obtain ⟨x', y', e, bx, by'⟩ := bs.two
      obtain ⟨e1, e2⟩ := list2 e
      subst e1 e2
      rw [by'.int_] at ry
      obtain ⟨a, vs, rfl, h1, z1, r1⟩ := bx.lst_
      refine op_rep pins s σ H _ _ v u Q I rx ry ⟨a, _, vs, rfl, rfl, h1, by omega, by omega, by rw [← r1.length]; exact c3, fun p hp => k _ _ (same_upd hp) (newL ap hp (r1.rep _) ?_)⟩
      rw [PyProof.Rows.lm_len_rep_flat, Nat.mul_comm]
      exact c3
    · cases ha
  · split at ha
    · rename_i xs n hc
      obtain ⟨c1, c2, c3, c4⟩ := hc
      cases ha
      obtain ⟨x', y', e, bx, by'⟩ := bs.two
      obtain ⟨e1, e2⟩ := list2 e
      subst e1 e2
      rw [by'.int_] at ry
      obtain ⟨a, vs, rfl, h1, z1, r1⟩ := bx.tup_
      refine op_repT pins s σ H _ _ v u Q I rx ry ⟨a, _, vs, rfl, rfl, h1, fun z => ?_, c2, c3, by rw [← r1.length]; exact c4, fun p hp => k _ _ (same_upd hp) (newT ap hp (r1.rep _) ?_)⟩
      · have l := r1.length
        rw [z] at l
        rw [List.length_eq_zero_iff.mp l] at c1
        cases c1
      · rw [PyProof.Rows.lm_len_rep_flat, sizeLine_eq]
        have a1 : n.toNat * xs.length ≤ 1000 * 1000 := Nat.mul_le_mul (by omega) c4
        omega
    · cases ha
  · cases ha
theorem div_wide {i j : Int} (h : 0 < j ∧ (j < 1073741824 ∨ j < 2 ^ 4000)) : CDivW i j := by
  have h2 : j < 2 ^ 4000 := by
    rcases h.2 with h | h
    · exact Int.lt_trans h (by decide +kernel)
    · exact h
  refine wide_div (b := 4000) h.1 ?_ (by decide) (by decide)
  have e : (j.natAbs : Int) = j := Int.natAbs_of_nonneg (Int.le_of_lt h.1)
  have : ((j.natAbs : Nat) : Int) < ((2 ^ 4000 : Nat) : Int) := by rw [e]; exact h2
  exact Int.ofNat_lt.mp this
theorem p_fdiv : OpR X (binaryOp .FloorDiv) (rP2 X.K .fdiv) := two_int op_fdivW fun ds d o h => by
  simp only [P.app, aFdiv] at h
  split at h
  · split at h
    · rename_i hc
      cases h
      exact ⟨_, _, .int _, rfl, rfl, fun _ _ _ => .int _, fun H Q q => ⟨_, _, rfl, rfl, div_wide hc, q⟩⟩
    · cases h
  · cases h
theorem p_mod : OpR X (binaryOp .Mod) (rP2 X.K .mod) := two_int op_mod fun ds d o h => by
  simp only [P.app, aMod] at h
  split at h
  · split at h
    · rename_i hc
      cases h
      exact ⟨_, _, .int _, rfl, rfl, fun _ _ _ => .int _, fun H Q q => ⟨_, _, rfl, rfl, hc, q⟩⟩
    · cases h
  · cases h
theorem p_pow : OpR X (binaryOp .Pow) (rP2 X.K .pow) := two_int op_pow fun ds d o h => by
  simp only [P.app, aPow] at h
  split at h
  · split at h
    · rename_i hc
      cases h
      exact ⟨_, _, .int _, rfl, rfl, fun _ _ _ => .int _, fun H Q q => ⟨_, _, rfl, rfl, hc, q⟩⟩
    · cases h
  · cases h
theorem p_lt : OpR X (compareOp .Lt) (rP2 X.K .lt) := two_int op_lt fun ds d o h => by
  simp only [P.app, aLt] at h
  split at h
  · cases h
    exact ⟨_, _, .bl _, rfl, rfl, fun _ _ _ => .bl _, fun H Q q => ⟨_, _, rfl, rfl, q⟩⟩
  · cases h
theorem p_le : OpR X (compareOp .LtE) (rP2 X.K .le) := two_int op_le fun ds d o h => by
  simp only [P.app, aLe] at h
  split at h
  · cases h
    exact ⟨_, _, .bl _, rfl, rfl, fun _ _ _ => .bl _, fun H Q q => ⟨_, _, rfl, rfl, q⟩⟩
  · cases h
theorem p_gt : OpR X (compareOp .Gt) (rP2 X.K .gt) := two_int op_gt fun ds d o h => by
  simp only [P.app, aGt] at h
  split at h
  · cases h
    exact ⟨_, _, .bl _, rfl, rfl, fun _ _ _ => .bl _, fun H Q q => ⟨_, _, rfl, rfl, q⟩⟩
  · cases h
theorem p_ge : OpR X (compareOp .GtE) (rP2 X.K .ge) := two_int op_ge fun ds d o h => by
  simp only [P.app, aGe] at h
  split at h
  · cases h
    exact ⟨_, _, .bl _, rfl, rfl, fun _ _ _ => .bl _, fun H Q q => ⟨_, _, rfl, rfl, q⟩⟩
  · cases h
theorem p_neg : UnR X (unaryOp .USub) (rP1 X.K .neg) := by
  intro pins s σ H x v Q I rx ⟨g, O, ds, d, o, ap, bs, ha, k⟩
  simp only [P.app, aNeg] at ha
  split at ha
  · cases ha
    obtain ⟨x', e, bx⟩ := bs.one
    have e1 := list1 e
    subst e1
    rw [bx.int_] at rx
    exact un_neg pins s σ H _ v Q I rx ⟨_, rfl, k _ H Grow.refl (Rep.int _)⟩
  · cases ha
theorem p_add : OpR X (binaryOp .Add) (rP2 X.K .add) := by
  intro pins s σ H x y v u Q I rx ry ⟨g, O, ds, d, o, ap, bs, ha, k⟩
  simp only [P.app, aAdd] at ha
  split at ha
  · cases ha
    obtain ⟨x', y', e, bx, by'⟩ := bs.two
    obtain ⟨e1, e2⟩ := list2 e
    subst e1 e2
    rw [bx.int_] at rx
    rw [by'.int_] at ry
    exact op_add pins s σ H _ _ v u Q I rx ry ⟨_, _, rfl, rfl, k _ H Grow.refl (Rep.int _)⟩
  · split at ha
    · rename_i hz
      cases ha
      obtain ⟨x', y', e, bx, by'⟩ := bs.two
      obtain ⟨e1, e2⟩ := list2 e
      subst e1 e2
      rw [bx.str_] at rx
      rw [by'.str_] at ry
      exact op_add_str pins s σ H _ _ v u Q I rx ry ⟨_, _, rfl, rfl, SZ_eq ▸ hz, k _ H Grow.refl (Rep.str _)⟩
    · cases ha
  · split at ha
    · rename_i hz
      rw [SZ_eq] at hz
      cases ha
      obtain ⟨x', y', e, bx, by'⟩ := bs.two
      obtain ⟨e1, e2⟩ := list2 e
      subst e1 e2
      obtain ⟨a, vs, rfl, h1, z1, r1⟩ := bx.lst_
      obtain ⟨b, ws, rfl, h2, z2, r2⟩ := by'.lst_
      exact op_cat pins s σ H _ _ v u Q I rx ry ⟨a, b, vs, ws, rfl, rfl, h1, h2, by rw [← r1.length, ← r2.length]; exact hz, fun p hp => k _ _ (same_upd hp) (newL ap hp (r1.append r2) (by rw [List.length_append]; exact hz))⟩
    · cases ha
  · split at ha
    · rename_i xs ys hz
      rw [SZ_eq] at hz
      cases ha
      obtain ⟨x', y', e, bx, by'⟩ := bs.two
      obtain ⟨e1, e2⟩ := list2 e
      subst e1 e2
      obtain ⟨a, vs, rfl, h1, z1, r1⟩ := bx.tup_
      obtain ⟨b, ws, rfl, h2, z2, r2⟩ := by'.tup_
      have e0 : ws = [] → xs ++ ys = xs := fun q => by
        have : ys = [] := List.length_eq_zero_iff.mp (by rw [r2.length, q]; rfl)
        rw [this, List.append_nil]
      have e0' : vs = [] → xs ++ ys = ys := fun q => by
        have : xs = [] := List.length_eq_zero_iff.mp (by rw [r1.length, q]; rfl)
        rw [this, List.nil_append]
      refine op_catA pins s σ H _ _ v u Q I rx ry ⟨a, b, vs, ws, rfl, rfl, h1, h2, by rw [← r1.length, ← r2.length]; exact hz, fun q => ?_, fun _ q => ?_, fun _ _ p hp => ?_⟩
      · rw [e0' q] at k
        exact k _ H Grow.refl (Rep.tup h2 z2 r2)
      · rw [e0 q] at k
        exact k _ H Grow.refl (Rep.tup h1 z1 r1)
      · exact k _ _ (same_upd hp) (newT ap hp (r1.append r2) (by rw [List.length_append]; exact hz))
    · cases ha
  · cases ha
/-! ### ==, is, in -/
mutual
theorem dp_of {K : PySem.W.Frag} {g : G} {H : Hp} : ∀ {d : D} {v : V}, Rep K g H d v → d.pure = true → d.py.canLay0 = true → Dp K H v d.py
  | _, _, .non, _, _ => .non
  | _, _, .bl b, _, _ => .bl b
  | _, _, .int i, _, _ => .int i
  | _, _, .str s, _, _ => .str s
  | _, _, .tup h z r, p, c => .tup h (dps_of r (by simpa only [D.pure] using p) (by simpa only [D.py, PyData.canLay0] using c))
  | _, _, .lst h f z r, p, c => .lst (.inl (.inl h)) (dps_of r (by simpa only [D.pure] using p) (by simpa only [D.py, PyData.canLay0] using c))
  | _, _, .dct h f e r, p, c => by simp [D.py, PyData.canLay0] at c
  | _, _, .ref h, p, c => by simp [D.pure] at p
  | _, _, .scr h, p, c => by simp [D.pure] at p
theorem dps_of {K : PySem.W.Frag} {g : G} {H : Hp} : ∀ {ds : List D} {vs : List V}, Reps K g H ds vs → D.pures ds = true → PyData.canLayAll0 (D.pys ds) = true → DpAll K H vs (D.pys ds)
  | _, _, .nil, _, _ => .nil
  | _, _, .cons r t, p, c => by
    simp only [D.pures, Bool.and_eq_true] at p
    simp only [D.pys, PyData.canLayAll0, Bool.and_eq_true] at c
    exact .cons (dp_of r p.1 c.1) (dps_of t p.2 c.2)
end
theorem dpb_of {K : PySem.W.Frag} {g : G} {H : Hp} {d : D} {v : V} (r : RepB K g H d v) (p : d.pure = true) (c : d.py.canLay0 = true) : Dp K H v d.py := by
  cases d with
  | lst xs =>
    obtain ⟨a, vs, rfl, h, z, r⟩ := r
    exact .lst (.inl (.inl h)) (dps_of r (by simpa only [D.pure] using p) (by simpa only [D.py, PyData.canLay0] using c))
  | non => exact dp_of r p c
  | bl b => exact dp_of r p c
  | int i => exact dp_of r p c
  | str s => exact dp_of r p c
  | tup xs => exact dp_of r p c
  | dct ks vs => exact dp_of r p c
  | ref l => exact dp_of r p c
  | scr ns => exact dp_of r p c
theorem okEq_dp {K : PySem.W.Frag} {g : G} {H : Hp} {d : D} {v : V} (r : RepB K g H d v) (o : d.okEq = true) : Dp K H v d.py ∧ SeqAt.shaped d.py = true := by
  unfold D.okEq at o
  obtain ⟨p, s⟩ := Bool.and_eq_true_iff.mp o
  exact ⟨dpb_of r p (SeqAt.canLay_of_shaped s), s⟩
section
variable {prog : Program} {w : World} {A : Around} {E : Value → Shared → Prop} {s : Shared}
theorem call_dict_ne_list {a : Addr} {u : Value} {Q : Value → Shared → Prop} (ta : s.TypeIs (.ref a) "dict") (tu : s.TypeIs u "list") (h : Q .notImplemented s) : wpAny (model prog w) A (call (.builtin "dict.__ne__") [.ref a, u]) Q E s := by
  refine wpAny_call_entry F.slot_dict_ne ta F.entry_dict_ne ?_ (F.args_dict_ne_2 _ _)
  show wpAny _ _ (Builtin.Dict.dictSlotArgs "__ne__" ⟨[.ref a, u], []⟩ >>= _) _ _ s
  refine wpAny_bind ?_
  unfold Builtin.Dict.dictSlotArgs
  refine wpAny_bind (wpAny_notOrdered_dict ta ?_)
  show wpAny _ _ (pure (Value.ref a, u)) _ _ s
  refine wpAny_pure ?_
  refine wpAny_bind (wpAny_isInstance (b := false) tu F.sub_list_dict ?_)
  simp only [Bool.not_false, if_true]
  refine wpAny_bind (wpAny_rule (wpAny_pure ?_))
  exact ⟨_, rfl, h⟩
theorem call_dict_eq_list {a : Addr} {u : Value} {Q : Value → Shared → Prop} (ta : s.TypeIs (.ref a) "dict") (tu : s.TypeIs u "list") (h : Q .notImplemented s) : wpAny (model prog w) A (call (.builtin "dict.__eq__") [.ref a, u]) Q E s := by
  refine wpAny_call_entry F.slot_dict_eq ta F.entry_dict_eq ?_ (F.args_dict_eq_2 _ _)
  show wpAny _ _ (Builtin.Dict.dictSlotArgs "__eq__" ⟨[.ref a, u], []⟩ >>= _) _ _ s
  refine wpAny_bind ?_
  unfold Builtin.Dict.dictSlotArgs
  refine wpAny_bind (wpAny_notOrdered_dict ta ?_)
  show wpAny _ _ (pure (Value.ref a, u)) _ _ s
  refine wpAny_pure ?_
  refine wpAny_bind (wpAny_isInstance (b := false) tu F.sub_list_dict ?_)
  simp only [Bool.not_false, if_true]
  refine wpAny_bind (wpAny_rule (wpAny_pure ?_))
  exact ⟨_, rfl, h⟩
end
theorem list_ne_declines_dict (l b : Addr) (items : Array Value) (n : Nat) (dd dd2 : Option Addr) (data2 : Data) (sl sl2 : Array (Option Value)) :
    Meets (Builtin.«list.__ne__» ⟨[.ref l, .ref b], []⟩) (fun _ R s => s.heap.get? l = some { cls := .type "list", dict := dd, data := .seq items n, slots := sl } ∧ s.heap.get? b = some { cls := .type "dict", dict := dd2, data := data2, slots := sl2 } ∧ R (.ok (.ret .notImplemented)) s) :=
  .of_wp fun prog w A R s h => by obtain ⟨hp, g, d, tk, os⟩ := s; obtain ⟨hl, hb, h⟩ := h; have f1 := F.sub_dict_list; wp_walk using wpAny_loadPart' hl, wpAny_loadPart' hb; exact ⟨_, rfl, h⟩
theorem list_eq_declines_dict (l b : Addr) (items : Array Value) (n : Nat) (dd dd2 : Option Addr) (data2 : Data) (sl sl2 : Array (Option Value)) :
    Meets (Builtin.«list.__eq__» ⟨[.ref l, .ref b], []⟩) (fun _ R s => s.heap.get? l = some { cls := .type "list", dict := dd, data := .seq items n, slots := sl } ∧ s.heap.get? b = some { cls := .type "dict", dict := dd2, data := data2, slots := sl2 } ∧ R (.ok (.ret .notImplemented)) s) :=
  .of_wp fun prog w A R s h => by obtain ⟨hp, g, d, tk, os⟩ := s; obtain ⟨hl, hb, h⟩ := h; have f1 := F.sub_dict_list; wp_walk using wpAny_loadPart' hl, wpAny_loadPart' hb; exact ⟨_, rfl, h⟩
section
variable {prog : Program} {w : World} {A : Around} {E : Value → Shared → Prop} {s : Shared}
theorem ne_dict_list {a l : Addr} {items : Array Value} {Q : Value → Shared → Prop} (ta : s.TypeIs (.ref a) "dict") (hl : s.heap.IsList l items) (hu : A.units < cLine) (h : Q (.bool true) s) :
    wpAny (model prog w) A (richCompare .NotEq (.ref a) (.ref l)) Q E s := by
  obtain ⟨⟨cls, dd, data, sl⟩, ho, hc, n, hd⟩ := id hl
  obtain ⟨⟨cls2, dd2, data2, sl2⟩, ho2, hc2⟩ := id ta
  simp only at hc hd hc2
  subst hc hd hc2
  have hne : a ≠ l := fun e => by
    subst e
    rw [ho] at ho2
    exact absurd (congrArg (fun o : Option Obj => o.map (·.cls)) ho2) (by simp)
  exact (SeqAt.rc_ne_decline_or (k := false) ta ⟨_, ho, rfl⟩ (by decide) F.sub_list_dict F.slot_dict_ne F.slot_list_ne_refl
    (fun _ hq => call_dict_ne_list ta ⟨_, ho, rfl⟩ hq)
    (fun _ hq => call_meets F.slot_list_ne_refl ⟨_, ho, rfl⟩ F.entry_list_ne (F.args_list_ne_2 _ _) (list_ne_declines_dict l a items n dd dd2 data2 sl sl2) ⟨ho, ho2, hq⟩)
    (fun _ hq => wpAny_isSame_ref_other hne ho2 ho (by simp) hq) (.inr hu) h)
theorem eq_dict_list {a l : Addr} {items : Array Value} {Q : Value → Shared → Prop} (ta : s.TypeIs (.ref a) "dict") (hl : s.heap.IsList l items) (hu : A.units < cLine) (h : Q (.bool false) s) :
    wpAny (model prog w) A (richCompare .Eq (.ref a) (.ref l)) Q E s := by
  obtain ⟨⟨cls, dd, data, sl⟩, ho, hc, n, hd⟩ := id hl
  obtain ⟨⟨cls2, dd2, data2, sl2⟩, ho2, hc2⟩ := id ta
  simp only at hc hd hc2
  subst hc hd hc2
  have hne : a ≠ l := fun e => by
    subst e
    rw [ho] at ho2
    exact absurd (congrArg (fun o : Option Obj => o.map (·.cls)) ho2) (by simp)
  exact (SeqAt.rc_eq_decline_or (k := false) ta ⟨_, ho, rfl⟩ (by decide) F.sub_list_dict F.slot_dict_eq F.slot_list_eq_refl
    (fun _ hq => call_dict_eq_list ta ⟨_, ho, rfl⟩ hq)
    (fun _ hq => call_meets F.slot_list_eq_refl ⟨_, ho, rfl⟩ F.entry_list_eq (F.args_list_eq_2 _ _) (list_eq_declines_dict l a items n dd dd2 data2 sl sl2) ⟨ho, ho2, hq⟩)
    (fun _ hq => wpAny_isSame_ref_other hne ho2 ho (by simp) hq) (.inr hu) h)
end
theorem ne_dl {X : Cx} {pins : List (Addr × Obj)} {s : Shared} {σ : L2.St} {H : Hp} {E : Value → Shared → Prop} {Q : Value → Shared → Prop} {a l : Addr} {kvs : List (Key × V)} {xs : List V} (hu : X.A.units + 64 < cLine) (I : Inv X pins σ H s) (ha : H a = some (.dK kvs)) (hl : H l = some (.lst xs)) (h : Q (.bool true) s) :
    wpAny (model X.prog X.w) X.A (compareOp .NotEq (.ref a) (.ref l)) Q E s := by
  obtain ⟨_, _, vs, _, dd⟩ := dk_of I.hok ha
  obtain ⟨its, _, ⟨o, n, e, c, _, d⟩, _⟩ := I.list (.inl (.inl hl))
  exact ne_dict_list dd.typeIs (items := its.toArray) ⟨o, e, c, n, d⟩ (by omega) h
theorem eq_dl {X : Cx} {pins : List (Addr × Obj)} {s : Shared} {σ : L2.St} {H : Hp} {E : Value → Shared → Prop} {Q : Value → Shared → Prop} {a l : Addr} {kvs : List (Key × V)} {xs : List V} (hu : X.A.units + 64 < cLine) (I : Inv X pins σ H s) (ha : H a = some (.dK kvs)) (hl : H l = some (.lst xs)) (h : Q (.bool false) s) :
    wpAny (model X.prog X.w) X.A (compareOp .Eq (.ref a) (.ref l)) Q E s := by
  obtain ⟨_, _, vs, _, dd⟩ := dk_of I.hok ha
  obtain ⟨its, _, ⟨o, n, e, c, _, d⟩, _⟩ := I.list (.inl (.inl hl))
  exact eq_dict_list dd.typeIs (items := its.toArray) ⟨o, e, c, n, d⟩ (by omega) h
/-- == of two values -/
theorem eq_run (hu : X.A.units + 64 < cLine) {pins : List (Addr × Obj)} {s : Shared} {σ : L2.St} {H : Hp} {x y : V} {v u : Value} {Q : VK} {g : G} {d e : D} {b : Bool} (I : Inv X pins σ H s) (rx : RelV x v) (ry : RelV y u)
    (bx : RepB X.K g H d x) (by' : RepB X.K g H e y) (h : eqD d e = some b) (q : Q (.bl b) H) : wpAny (model X.prog X.w) X.A (compareOp .Eq v u) (EP X pins σ Q) X.xe s := by
  unfold eqD at h
  split at h
  · cases h
    rw [bx.int_] at rx
    rw [by'.int_] at ry
    exact op_eq pins s σ H _ _ v u Q I rx ry ⟨rfl, by rw [dec_int, Bool.beq_eq_decide_eq]; exact q⟩
  · cases h
    rw [bx.bl_] at rx
    rw [by'.bl_] at ry
    exact op_eq pins s σ H _ _ v u Q I rx ry ⟨rfl, by rw [dec_bl]; exact q⟩
  · cases h
    rw [bx.str_] at rx
    rw [by'.str_] at ry
    exact op_eq pins s σ H _ _ v u Q I rx ry ⟨rfl, by rw [dec_str, Bool.beq_eq_decide_eq]; exact q⟩
  · cases h
    rw [bx.non_] at rx
    rw [by'.non_] at ry
    exact op_eq pins s σ H _ _ v u Q I rx ry ⟨rfl, q⟩
  · cases h
    cases bx with
    | dct ha f e r =>
      obtain ⟨l, ws, rfl, hl, z, r2⟩ := by'.lst_
      cases rx
      cases ry
      exact eq_dl hu I ha hl ⟨.bl _, H, I, rfl, q⟩
  · split at h
    · rename_i hc
      cases h
      obtain ⟨h1, h2⟩ := Bool.and_eq_true_iff.mp hc
      obtain ⟨p1, s1⟩ := okEq_dp bx h1
      obtain ⟨p2, s2⟩ := okEq_dp by' h2
      exact op_eqD hu pins s σ H x y v u Q I rx ry ⟨_, _, p1, p2, s1, s2, q⟩
    · cases h
theorem ne_run (hu : X.A.units + 64 < cLine) {pins : List (Addr × Obj)} {s : Shared} {σ : L2.St} {H : Hp} {x y : V} {v u : Value} {Q : VK} {g : G} {d e : D} {b : Bool} (I : Inv X pins σ H s) (rx : RelV x v) (ry : RelV y u)
    (bx : RepB X.K g H d x) (by' : RepB X.K g H e y) (h : eqD d e = some b) (q : Q (.bl (!b)) H) : wpAny (model X.prog X.w) X.A (compareOp .NotEq v u) (EP X pins σ Q) X.xe s := by
  unfold eqD at h
  split at h
  · cases h
    rw [bx.int_] at rx
    rw [by'.int_] at ry
    exact op_ne pins s σ H _ _ v u Q I rx ry ⟨rfl, by rw [dec_int, Bool.beq_eq_decide_eq]; exact q⟩
  · cases h
    rw [bx.bl_] at rx
    rw [by'.bl_] at ry
    exact op_ne pins s σ H _ _ v u Q I rx ry ⟨rfl, by rw [dec_bl]; exact q⟩
  · cases h
    rw [bx.str_] at rx
    rw [by'.str_] at ry
    exact op_ne pins s σ H _ _ v u Q I rx ry ⟨rfl, by rw [dec_str, Bool.beq_eq_decide_eq]; exact q⟩
  · cases h
    rw [bx.non_] at rx
    rw [by'.non_] at ry
    exact op_ne pins s σ H _ _ v u Q I rx ry ⟨rfl, q⟩
  · cases h
    cases bx with
    | dct ha f e r =>
      obtain ⟨l, ws, rfl, hl, z, r2⟩ := by'.lst_
      cases rx
      cases ry
      exact ne_dl hu I ha hl ⟨.bl _, H, I, rfl, q⟩
  · split at h
    · rename_i hc
      cases h
      obtain ⟨h1, h2⟩ := Bool.and_eq_true_iff.mp hc
      obtain ⟨p1, s1⟩ := okEq_dp bx h1
      obtain ⟨p2, s2⟩ := okEq_dp by' h2
      exact op_neD hu pins s σ H x y v u Q I rx ry ⟨_, _, p1, p2, s1, s2, q⟩
    · cases h
theorem p_eq (hu : X.A.units + 64 < cLine) : OpR X (compareOp .Eq) (rP2 X.K .eq) := by
  intro pins s σ H x y v u Q I rx ry ⟨g, O, ds, d, o, ap, bs, ha, k⟩
  simp only [P.app, aEq] at ha
  split at ha
  · rename_i xs
    obtain ⟨x', y', e, bx, by'⟩ := bs.two
    obtain ⟨e1, e2⟩ := list2 e
    subst e1 e2
    cases ha
    obtain ⟨a, vs, ea, ta, za, ra⟩ := bx.tup_
    obtain ⟨b, ws, eb, tb, zb, rb⟩ := by'.tup_
    subst ea eb
    cases rx
    cases ry
    cases rb
    obtain ⟨its, rv, pt, hz⟩ := I.tuple ta
    obtain ⟨its2, rv2, pt2, hz2⟩ := I.tuple tb
    cases rv2
    refine SeqAt.eq_tupleAt (e := fun _ => true) (show s.heap.IsTuple a its.toArray from pt) (show s.heap.IsTuple b #[] from pt2) (by omega) (fun j h1 h2 => absurd h2 (by simp)) ⟨.bl _, H, I, rfl, ?_⟩
    refine k _ H Grow.refl ?_
    have hl : xs.length = its.length := ra.length.trans rv.length
    have e : ((List.range (min its.toArray.size (#[] : Array Value).size)).all (fun _ => true) && its.toArray.size == (#[] : Array Value).size) = xs.isEmpty := by
      cases xs with
      | nil =>
        have : its = [] := List.eq_nil_of_length_eq_zero (by rw [← hl]; rfl)
        subst this
        rfl
      | cons x xs =>
        cases its with
        | nil => cases hl
        | cons u us => simp
    rw [e]
    exact Rep.bl _
  · obtain ⟨x', y', e, bx, by'⟩ := bs.two
    obtain ⟨e1, e2⟩ := list2 e
    subst e1 e2
    obtain ⟨b, hb, hd⟩ := Option.map_eq_some_iff.mp ha
    cases hd
    exact eq_run hu I rx ry bx by' hb (k _ H Grow.refl (Rep.bl _))
  · cases ha
theorem ne_nil {pins : List (Addr × Obj)} {s : Shared} {σ : L2.St} {H : Hp} {E : Value → Shared → Prop} {Q : Value → Shared → Prop} {a l : Addr} {v : V} {vs : List V} (hu : X.A.units + 64 < cLine) (I : Inv X pins σ H s) (ha : H a = some (.lst (v :: vs))) (hl : H l = some (.lst [])) (h : Q (.bool true) s) :
    wpAny (model X.prog X.w) X.A (compareOp .NotEq (.ref a) (.ref l)) Q E s := by
  obtain ⟨its, r, ⟨o, n, e, c, _, d⟩, _⟩ := I.list (.inl (.inl ha))
  obtain ⟨its2, r2, ⟨o2, n2, e2, c2, _, d2⟩, _⟩ := I.list (.inl (.inl hl))
  cases r2
  refine SeqAt.RcNeAt.lists_lengths (items := its.toArray) (items2 := #[]) ⟨o, e, c, n, d⟩ ⟨o2, e2, c2, n2, d2⟩ ?_ (by omega) X.prog X.w E Q h
  have := r.length
  cases its with
  | nil => cases this
  | cons u us => simp
theorem p_ne (hu : X.A.units + 64 < cLine) : OpR X (compareOp .NotEq) (rP2 X.K .ne) := by
  intro pins s σ H x y v u Q I rx ry ⟨g, O, ds, d, o, ap, bs, ha, k⟩
  simp only [P.app] at ha
  split at ha
  · rename_i r hr
    cases ha
    unfold aNe at hr
    split at hr
    · obtain ⟨x', y', e, bx, by'⟩ := bs.two
      obtain ⟨e1, e2⟩ := list2 e
      subst e1 e2
      obtain ⟨b, hb, hd⟩ := Option.map_eq_some_iff.mp hr
      cases hd
      exact ne_run hu I rx ry bx by' hb (k _ H Grow.refl (Rep.bl _))
    · cases hr
  · unfold neNil at ha
    split at ha
    · cases ha
      obtain ⟨x', y', e, bx, by'⟩ := bs.two
      obtain ⟨e1, e2⟩ := list2 e
      subst e1 e2
      obtain ⟨a, vs, ea, ha, za, ra⟩ := bx.lst_
      obtain ⟨b, ws, eb, hb, zb, rb⟩ := by'.lst_
      subst ea eb
      cases rx
      cases ry
      cases rb
      cases ra with
      | cons r1 r2 => exact ne_nil hu I ha hb ⟨.bl _, H, I, rfl, k _ H Grow.refl (Rep.bl _)⟩
    · cases ha
theorem isN_of {K : PySem.W.Frag} {g : G} {H : Hp} {d : D} {v : V} (r : RepB K g H d v) : decide (v = .non) = d.isNon := by
  cases d with
  | lst xs => obtain ⟨a, vs, rfl, _⟩ := r; rfl
  | non => cases r; rfl
  | bl b => cases r; rfl
  | int i => cases r; rfl
  | str s => cases r; rfl
  | tup xs => cases r; rfl
  | dct ks vs => cases r; rfl
  | ref l => cases r; rfl
  | scr ns => cases r; rfl
theorem p_is : OpR X (compareOp .Is) (rP2 X.K .is_) := by
  intro pins s σ H x y v u Q I rx ry ⟨g, O, ds, d, o, ap, bs, ha, k⟩
  simp only [P.app, aIs_] at ha
  split at ha
  · cases ha
    obtain ⟨x', y', e, bx, by'⟩ := bs.two
    obtain ⟨e1, e2⟩ := list2 e
    subst e1 e2
    rw [by'.non_] at ry
    refine op_isN pins s σ H _ _ v u Q I rx ry ⟨rfl, ?_⟩
    rw [isN_of bx]
    exact k _ H Grow.refl (Rep.bl _)
  · cases ha
    obtain ⟨x', y', e, bx, by'⟩ := bs.two
    obtain ⟨e1, e2⟩ := list2 e
    subst e1 e2
    rw [bx.bl_] at rx
    rw [by'.bl_] at ry
    exact op_isBl pins s σ H _ _ v u Q I rx ry ⟨_, _, rfl, rfl, by rw [← Bool.beq_eq_decide_eq]; exact k _ H Grow.refl (Rep.bl _)⟩
  · cases ha
theorem p_isnt : OpR X (compareOp .IsNot) (rP2 X.K .isnt) := by
  intro pins s σ H x y v u Q I rx ry ⟨g, O, ds, d, o, ap, bs, ha, k⟩
  simp only [P.app, aIsnt] at ha
  split at ha
  · cases ha
    obtain ⟨x', y', e, bx, by'⟩ := bs.two
    obtain ⟨e1, e2⟩ := list2 e
    subst e1 e2
    rw [by'.non_] at ry
    refine op_notN pins s σ H _ _ v u Q I rx ry ⟨rfl, ?_⟩
    rw [isN_of bx]
    exact k _ H Grow.refl (Rep.bl _)
  · cases ha
    obtain ⟨x', y', e, bx, by'⟩ := bs.two
    obtain ⟨e1, e2⟩ := list2 e
    subst e1 e2
    rw [bx.bl_] at rx
    rw [by'.bl_] at ry
    exact op_notBl pins s σ H _ _ v u Q I rx ry ⟨_, _, rfl, rfl, by rw [← Bool.beq_eq_decide_eq]; exact k _ H Grow.refl (Rep.bl _)⟩
  · cases ha
/-! ### in -/
theorem flat_of {K : PySem.W.Frag} {g : G} {H : Hp} {d : D} {v : V} (r : Rep K g H d v) (f : d.flat = true) : flatV v = true := by
  cases r <;> first | rfl | cases f
theorem eqF_of {K : PySem.W.Frag} {g : G} {H : Hp} {d e : D} {v u : V} (r : Rep K g H d v) (q : Rep K g H e u) (f : d.flat = true) (f' : e.flat = true) : eqV v u = eqF d e := by
  cases r <;> first | (cases q <;> first | rfl | (cases f'; done)) | (cases f; done)
theorem flats_of {K : PySem.W.Frag} {g : G} {H : Hp} : ∀ {ds : List D} {vs : List V}, Reps K g H ds vs → ds.all D.flat = true → vs.all flatV = true
  | _, _, .nil, _ => rfl
  | _, _, .cons r t, h => by
    simp only [List.all_cons, Bool.and_eq_true] at h ⊢
    exact ⟨flat_of r h.1, flats_of t h.2⟩
theorem anyF_of {K : PySem.W.Frag} {g : G} {H : Hp} {d : D} {v : V} (r : Rep K g H d v) (f : d.flat = true) : ∀ {ds : List D} {vs : List V}, Reps K g H ds vs → ds.all D.flat = true → inV v vs = ds.any fun y => eqF y d
  | _, _, .nil, _ => rfl
  | _, _, .cons q t, h => by
    simp only [List.all_cons, Bool.and_eq_true] at h
    have ih := anyF_of r f t h.2
    unfold inV at ih ⊢
    rw [List.any_cons, List.any_cons, eqF_of q r h.1 f, ih]
theorem flatB {K : PySem.W.Frag} {g : G} {H : Hp} {d : D} {v : V} (r : RepB K g H d v) (f : d.flat = true) : Rep K g H d v := by
  cases d <;> first | exact r | cases f
theorem anyD_of (d : D) : ∀ ds : List D, ((D.pys ds).any fun z => PyData.eqv z d.py) = ds.any fun y => PyData.eqv y.py d.py
  | [] => rfl
  | x :: xs => by simp only [D.pys, List.any_cons, anyD_of d xs]
theorem in_run (hu : X.A.units + 65 < cLine) (neg : Bool) {f : Value → Value → Sem Value} (h1 : OpR X f (rIn X.K neg)) (h2 : OpR X f (fun x y H Q => ∃ d ds, Dp X.K H x d ∧ Dp X.K H y (.list ds) ∧ SeqAt.shaped d = true ∧ SeqAt.shaped (.list ds) = true ∧ Q (.bl (if neg then !(ds.any fun z => PyData.eqv z d) else ds.any fun z => PyData.eqv z d)) H))
    {pins : List (Addr × Obj)} {s : Shared} {σ : L2.St} {H : Hp} {x y : V} {v u : Value} {Q : VK} {g : G} {d : D} {ds : List D} {l : Bool} {b : Bool} (I : Inv X pins σ H s) (rx : RelV x v) (ry : RelV y u)
    (bx : RepB X.K g H d x) (by' : RepB X.K g H (if l then .lst ds else .tup ds) y) (h : inD l d ds = some b) (q : Q (.bl (if neg then !b else b)) H) : wpAny (model X.prog X.w) X.A (f v u) (EP X pins σ Q) X.xe s := by
  unfold inD at h
  split at h
  · rename_i hc
    obtain ⟨c1, c2⟩ := Bool.and_eq_true_iff.mp hc
    cases h
    have fx := flatB bx c1
    cases l with
    | true =>
      obtain ⟨a, vs, rfl, e, z, r⟩ := by'.lst_
      refine h1 pins s σ H _ _ v u Q I rx ry ⟨a, vs, rfl, .inl (.inl (.inl e)), flat_of fx c1, flats_of r c2, ?_⟩
      rw [anyF_of fx c1 r c2]
      exact q
    | false =>
      obtain ⟨a, vs, rfl, e, z, r⟩ := by'.tup_
      refine h1 pins s σ H _ _ v u Q I rx ry ⟨a, vs, rfl, .inr e, flat_of fx c1, flats_of r c2, ?_⟩
      rw [anyF_of fx c1 r c2]
      exact q
  · split at h
    · rename_i hc
      obtain ⟨cl, c⟩ := Bool.and_eq_true_iff.mp hc
      obtain ⟨c1, c2⟩ := Bool.and_eq_true_iff.mp c
      subst cl
      cases h
      obtain ⟨p1, s1⟩ := okEq_dp bx c1
      obtain ⟨p2, s2⟩ := okEq_dp (d := .lst ds) by' c2
      exact h2 pins s σ H x y v u Q I rx ry ⟨_, D.pys ds, p1, p2, s1, s2, by rw [anyD_of]; exact q⟩
    · cases h
theorem p_in (hu : X.A.units + 65 < cLine) : OpR X (compareOp .In) (rP2 X.K .in_) := by
  intro pins s σ H x y v u Q I rx ry ⟨g, O, ds, d, o, ap, bs, ha, k⟩
  simp only [P.app, aIn_] at ha
  split at ha
  · obtain ⟨x', y', e, bx, by'⟩ := bs.two
    obtain ⟨e1, e2⟩ := list2 e
    subst e1 e2
    obtain ⟨b, hb, hd⟩ := Option.map_eq_some_iff.mp ha
    cases hd
    exact in_run hu false op_in_seq (op_inD hu) I rx ry bx (l := true) by' hb (k _ H Grow.refl (Rep.bl _))
  · obtain ⟨x', y', e, bx, by'⟩ := bs.two
    obtain ⟨e1, e2⟩ := list2 e
    subst e1 e2
    obtain ⟨b, hb, hd⟩ := Option.map_eq_some_iff.mp ha
    cases hd
    exact in_run hu false op_in_seq (op_inD hu) I rx ry bx (l := false) by' hb (k _ H Grow.refl (Rep.bl _))
  · cases ha
theorem p_nin (hu : X.A.units + 65 < cLine) : OpR X (compareOp .NotIn) (rP2 X.K .nin) := by
  intro pins s σ H x y v u Q I rx ry ⟨g, O, ds, d, o, ap, bs, ha, k⟩
  simp only [P.app, aNin] at ha
  split at ha
  · obtain ⟨x', y', e, bx, by'⟩ := bs.two
    obtain ⟨e1, e2⟩ := list2 e
    subst e1 e2
    obtain ⟨b, hb, hd⟩ := Option.map_eq_some_iff.mp ha
    cases hd
    exact in_run hu true op_notIn_seq (op_notInD hu) I rx ry bx (l := true) by' hb (k _ H Grow.refl (Rep.bl _))
  · obtain ⟨x', y', e, bx, by'⟩ := bs.two
    obtain ⟨e1, e2⟩ := list2 e
    subst e1 e2
    obtain ⟨b, hb, hd⟩ := Option.map_eq_some_iff.mp ha
    cases hd
    exact in_run hu true op_notIn_seq (op_notInD hu) I rx ry bx (l := false) by' hb (k _ H Grow.refl (Rep.bl _))
  · cases ha
end
end Dd

/-! Dd6: items, slices, calls of built-ins by values. -/
namespace Dd
open L2 PyProof.Rows PySem.Spec PySem

section
variable {X : Cx}
theorem p_ix : IxR X (rP2 X.K .ix) := by
  intro value slice pins s σ H x y v u Q I rx ry ⟨g, O, ds, d, o, ap, bs, ha, k⟩ hs
  simp only [P.app, aIx] at ha
  split at ha
  · obtain ⟨x', y', e, bx, by'⟩ := bs.two
    obtain ⟨e1, e2⟩ := list2 e
    subst e1 e2
    obtain ⟨b, hb, hd⟩ := Option.map_eq_some_iff.mp ha
    cases hd
    rw [by'.int_] at ry
    obtain ⟨a, vs, rfl, h, z, r⟩ := bx.lst_
    obtain ⟨w, hw, rw'⟩ := getI_atI r hb
    exact ix_list value slice pins s σ H _ _ v u Q I rx ry ⟨a, vs, _, w, rfl, rfl, .inl (.inl h), hw, k w H Grow.refl rw'⟩ hs
  · obtain ⟨x', y', e, bx, by'⟩ := bs.two
    obtain ⟨e1, e2⟩ := list2 e
    subst e1 e2
    obtain ⟨b, hb, hd⟩ := Option.map_eq_some_iff.mp ha
    cases hd
    rw [by'.int_] at ry
    obtain ⟨a, vs, rfl, h, z, r⟩ := bx.tup_
    obtain ⟨w, hw, rw'⟩ := getI_atI r hb
    exact ix_tup value slice pins s σ H _ _ v u Q I rx ry ⟨a, vs, _, w, rfl, rfl, h, hw, k w H Grow.refl rw'⟩ hs
  · obtain ⟨x', y', e, bx, by'⟩ := bs.two
    obtain ⟨e1, e2⟩ := list2 e
    subst e1 e2
    obtain ⟨n, hb, hd⟩ := Option.map_eq_some_iff.mp ha
    cases hd
    rw [by'.int_] at ry
    obtain ⟨a, rfl, h⟩ := bx.scr_
    refine ix_list value slice pins s σ H _ _ v u Q I rx ry ⟨a, _, _, .int n, rfl, rfl, h, ?_, k (.int n) H Grow.refl (Rep.int n)⟩ hs
    unfold getI at hb
    unfold atI
    rw [List.length_map]
    rw [← ixD_same]
    obtain ⟨j, hj, hn⟩ := Option.bind_eq_some_iff.mp hb
    rw [hj]
    show (List.map V.int _)[j]? = some (V.int n)
    rw [List.getElem?_map, hn]
    rfl
  · split at ha
    · rename_i hz
      rw [SZ_eq] at hz
      obtain ⟨x', y', e, bx, by'⟩ := bs.two
      obtain ⟨e1, e2⟩ := list2 e
      subst e1 e2
      obtain ⟨c, hb, hd⟩ := Option.map_eq_some_iff.mp ha
      cases hd
      rw [by'.int_] at ry
      rw [bx.str_] at rx
      exact ix_str value slice pins s σ H _ _ v u Q I rx ry ⟨_, _, c, rfl, rfl, hz, hb, k _ H Grow.refl (Rep.str _)⟩ hs
    · cases ha
  · cases ha
def rPs (K : PySem.W.Frag) : V → Option Int → Option Int → Hp → VK → Prop := fun x lo hi H Q => ∃ (g : G) (O : Addr → Prop) (d0 d : D) (o : Bool), Apart O g H ∧ RepB K g H d0 x ∧ cutP d0 lo hi = some (d, o) ∧
  ∀ v H', Grow H H' → NewR K g H H' d o v → Q v H'
theorem sl_cases {lo hi : Option Int} {d0 d : D} {o : Bool} (h : cutP d0 lo hi = some (d, o)) :
    (∃ xs, d0 = .lst xs ∧ d = .lst (cutD xs lo hi) ∧ o = true) ∨ ∃ xs, d0 = .tup xs ∧ d = .tup (cutD xs lo hi) ∧ o = false := by
  cases d0 <;> simp [cutP] at h <;> (obtain ⟨h1, h2⟩ := h; subst h1 h2; simp)
theorem cut_whole {xs : List D} {lo hi : Option Int} (h1 : sIxD xs.length 0 lo = 0) (h2 : sIxD xs.length xs.length hi = xs.length) : cutD xs lo hi = xs := by
  unfold cutD
  rw [h1, h2]
  simp
theorem p_sl : SlR X (rPs X.K) := by
  have base : SlR X (fun x lo hi H Q => rSlL X.K x lo hi H Q ∨ rSlA X.K x lo hi H Q) := SlR.or sl_list sl_tupA
  intro pins s σ H x v vl vu lo hi sl Q I rx hs pl pu ⟨g, O, d0, d, o, ap, bx, ha, k⟩
  refine base pins s σ H x v vl vu lo hi sl Q I rx hs pl pu ?_
  rcases sl_cases ha with ⟨xs, rfl, rfl, rfl⟩ | ⟨xs, rfl, rfl, rfl⟩
  · obtain ⟨a, vs, rfl, h, z, r⟩ := bx.lst_
    exact .inl ⟨a, vs, rfl, .inl (.inl h), fun p hp => k _ _ (same_upd hp) (newL ap hp (r.cut lo hi) (Nat.le_trans (cut_len _ _ _) z))⟩
  · obtain ⟨a, vs, rfl, h, z, r⟩ := bx.tup_
    refine .inr ⟨a, vs, rfl, h, fun hw => ?_, fun _ p hp => k _ _ (same_upd hp) (newT ap hp (r.cut lo hi) (Nat.le_trans (cut_len _ _ _) z))⟩
    rw [← r.length] at hw
    rw [cut_whole hw.1 hw.2] at k
    exact k _ H Grow.refl (Rep.tup h z r)

/-! ### built-ins -/
theorem p_len : CallR X (.builtin "len") (rP X.K .len) := by
  intro pins s σ H xs us Q I r ⟨g, O, ds, d, o, ap, bs, ha, k⟩
  simp only [P.app, aLen] at ha
  split at ha
  · cases ha
    obtain ⟨x, rfl, bx⟩ := bs.one
    obtain ⟨a, rfl, h⟩ := bx.scr_
    refine call_len pins s σ H _ us Q I r ⟨_, _, rfl, .inl ⟨_, h, rfl⟩, ?_⟩
    rw [List.length_map]
    exact k _ H Grow.refl (Rep.int _)
  · cases ha
    obtain ⟨x, rfl, bx⟩ := bs.one
    obtain ⟨a, vs, rfl, h, z, r'⟩ := bx.lst_
    refine call_len pins s σ H _ us Q I r ⟨_, _, rfl, .inl ⟨_, .inl (.inl h), rfl⟩, ?_⟩
    rw [← r'.length]
    exact k _ H Grow.refl (Rep.int _)
  · cases ha
    obtain ⟨x, rfl, bx⟩ := bs.one
    obtain ⟨a, vs, rfl, h, z, r'⟩ := bx.tup_
    refine call_len pins s σ H _ us Q I r ⟨_, _, rfl, .inr ⟨_, h, rfl⟩, ?_⟩
    rw [← r'.length]
    exact k _ H Grow.refl (Rep.int _)
  · split at ha
    · rename_i hz
      rw [SZ_eq] at hz
      cases ha
      obtain ⟨x, rfl, bx⟩ := bs.one
      have e := bx.str_
      subst e
      exact call_len pins s σ H _ us Q I r ⟨_, _, rfl, ⟨hz, rfl⟩, k _ H Grow.refl (Rep.int _)⟩
    · cases ha
  · cases ha
theorem bls_of {K : PySem.W.Frag} {g : G} {H : Hp} : ∀ {ds : List D} {vs : List V} {bs : List Bool}, Reps K g H ds vs → allM D.bl? ds = some bs → vs = bs.map V.bl
  | _, _, _, .nil, h => by cases h; rfl
  | _, _, _, .cons (d := d) (ds := ds) r t, h => by
    unfold allM at h
    split at h
    · rename_i a as h1 h2
      cases h
      have ih := bls_of t h2
      cases r <;> first | (cases h1; rw [ih]; rfl) | cases h1
    · cases h
theorem ints_of {K : PySem.W.Frag} {g : G} {H : Hp} : ∀ {ds : List D} {vs : List V} {is : List Int}, Reps K g H ds vs → allM D.int? ds = some is → vs = is.map V.int
  | _, _, _, .nil, h => by cases h; rfl
  | _, _, _, .cons (d := d) (ds := ds) r t, h => by
    unfold allM at h
    split at h
    · rename_i a as h1 h2
      cases h
      have ih := ints_of t h2
      cases r <;> first | (cases h1; rw [ih]; rfl) | cases h1
    · cases h
theorem p_all (hc : X.calm = true) : CallR X (.builtin "all") (rP X.K .all) := by
  intro pins s σ H xs us Q I r ⟨g, O, ds, d, o, ap, bs, ha, k⟩
  simp only [P.app, aAll] at ha
  split at ha
  · obtain ⟨b, hb, hd⟩ := Option.map_eq_some_iff.mp ha
    cases hd
    obtain ⟨x, rfl, bx⟩ := bs.one
    obtain ⟨a, vs, rfl, h, z, r'⟩ := bx.lst_
    rw [bls_of r' hb] at h
    exact cr_all hc pins s σ H _ us Q I r ⟨a, b, rfl, .inl (.inl h), k _ H Grow.refl (Rep.bl _)⟩
  · cases ha
theorem p_any (hc : X.calm = true) : CallR X (.builtin "any") (rP X.K .any) := by
  intro pins s σ H xs us Q I r ⟨g, O, ds, d, o, ap, bs, ha, k⟩
  simp only [P.app, aAny] at ha
  split at ha
  · obtain ⟨b, hb, hd⟩ := Option.map_eq_some_iff.mp ha
    cases hd
    obtain ⟨x, rfl, bx⟩ := bs.one
    obtain ⟨a, vs, rfl, h, z, r'⟩ := bx.lst_
    rw [bls_of r' hb] at h
    exact cr_any hc pins s σ H _ us Q I r ⟨a, b, rfl, .inl (.inl h), k _ H Grow.refl (Rep.bl _)⟩
  · cases ha
theorem p_tuple : CallR X (.type "tuple") (rP X.K .tuple) := by
  intro pins s σ H xs us Q I r ⟨g, O, ds, d, o, ap, bs, ha, k⟩
  simp only [P.app, aTuple] at ha
  split at ha
  · cases ha
    obtain ⟨x, rfl, bx⟩ := bs.one
    obtain ⟨a, vs, rfl, h, z, r'⟩ := bx.lst_
    exact call_tuple_of pins s σ H _ us Q I r ⟨a, vs, rfl, .inl ⟨.inl (.inl h), fun p hp => k _ _ (same_upd hp) (newT ap hp r' z)⟩⟩
  · cases ha
    obtain ⟨x, rfl, bx⟩ := bs.one
    obtain ⟨a, vs, rfl, h, z, r'⟩ := bx.tup_
    exact call_tuple_of pins s σ H _ us Q I r ⟨a, vs, rfl, .inr ⟨h, k _ H Grow.refl (Rep.tup h z r')⟩⟩
  · cases ha
theorem p_list : CallR X (.type "list") (rP X.K .list) := by
  intro pins s σ H xs us Q I r ⟨g, O, ds, d, o, ap, bs, ha, k⟩
  simp only [P.app, aList] at ha
  split at ha
  · cases ha
    obtain ⟨x, rfl, bx⟩ := bs.one
    obtain ⟨a, vs, rfl, h, z, r'⟩ := bx.lst_
    exact call_list_of pins s σ H _ us Q I r ⟨a, vs, rfl, .inl (.inl (.inl h)), fun p hp => k _ _ (same_upd hp) (newL ap hp r' z)⟩
  · cases ha
    obtain ⟨x, rfl, bx⟩ := bs.one
    obtain ⟨a, vs, rfl, h, z, r'⟩ := bx.tup_
    exact call_list_of pins s σ H _ us Q I r ⟨a, vs, rfl, .inr h, fun p hp => k _ _ (same_upd hp) (newL ap hp r' z)⟩
  · cases ha
theorem p_sum (hc : X.calm = true) : CallR X (.builtin "sum") (rP X.K .sum) := by
  intro pins s σ H xs us Q I r ⟨g, O, ds, d, o, ap, bs, ha, k⟩
  simp only [P.app, aSum] at ha
  split at ha
  · obtain ⟨b, hb, hd⟩ := Option.map_eq_some_iff.mp ha
    cases hd
    obtain ⟨x, rfl, bx⟩ := bs.one
    obtain ⟨a, vs, rfl, h, z, r'⟩ := bx.lst_
    rw [ints_of r' hb] at h
    exact cr_sum hc pins s σ H _ us Q I r ⟨a, b, rfl, .inl (.inl h), k _ H Grow.refl (Rep.int _)⟩
  · cases ha
theorem p_max2 (hc : X.calm = true) : CallR X (.builtin "max") (rP X.K .max2) := by
  intro pins s σ H xs us Q I r ⟨g, O, ds, d, o, ap, bs, ha, k⟩
  simp only [P.app, aMax2] at ha
  split at ha
  · cases ha
    obtain ⟨x, y, rfl, bx, by'⟩ := bs.two
    have e1 := bx.int_
    have e2 := by'.int_
    subst e1 e2
    exact call_max2 hc pins s σ H _ us Q I r ⟨_, _, rfl, k _ H Grow.refl (Rep.int _)⟩
  · cases ha
theorem p_min2 (hc : X.calm = true) : CallR X (.builtin "min") (rP X.K .min2) := by
  intro pins s σ H xs us Q I r ⟨g, O, ds, d, o, ap, bs, ha, k⟩
  simp only [P.app, aMin2] at ha
  split at ha
  · cases ha
    obtain ⟨x, y, rfl, bx, by'⟩ := bs.two
    have e1 := bx.int_
    have e2 := by'.int_
    subst e1 e2
    exact call_min2 hc pins s σ H _ us Q I r ⟨_, _, rfl, k _ H Grow.refl (Rep.int _)⟩
  · cases ha
theorem maxI_of {is : List Int} {m m' : Int} (h : maxI is = some m) (h1 : m' ∈ is) (h2 : ∀ y, y ∈ is → y ≤ m') : m = m' := by
  cases is with
  | nil => cases h
  | cons x xs =>
    cases h
    have key : ∀ (l : List Int) (a : Int), (l.foldl max a = a ∨ l.foldl max a ∈ l) ∧ a ≤ l.foldl max a ∧ ∀ y ∈ l, y ≤ l.foldl max a := by
      intro l
      induction l with
      | nil => intro a; exact ⟨.inl rfl, Int.le_refl _, fun y h => nomatch h⟩
      | cons b l ih =>
        intro a
        obtain ⟨i1, i2, i3⟩ := ih (max a b)
        simp only [List.foldl_cons]
        refine ⟨?_, by omega, fun y hy => ?_⟩
        · rcases i1 with i1 | i1
          · rw [i1]
            by_cases q : a ≤ b
            · right; rw [show max a b = b by omega]; exact List.mem_cons_self
            · left; omega
          · exact .inr (List.mem_cons_of_mem _ i1)
        · rcases List.mem_cons.mp hy with rfl | hy
          · omega
          · exact i3 y hy
    obtain ⟨k1, k2, k3⟩ := key xs x
    have a1 : xs.foldl max x ≤ m' := by
      rcases k1 with q | q
      · rw [q]; exact h2 x List.mem_cons_self
      · exact h2 _ (List.mem_cons_of_mem _ q)
    have a2 : m' ≤ xs.foldl max x := by
      rcases List.mem_cons.mp h1 with rfl | q
      · exact k2
      · exact k3 _ q
    omega
theorem minI_of {is : List Int} {m m' : Int} (h : minI is = some m) (h1 : m' ∈ is) (h2 : ∀ y, y ∈ is → m' ≤ y) : m = m' := by
  cases is with
  | nil => cases h
  | cons x xs =>
    cases h
    have key : ∀ (l : List Int) (a : Int), (l.foldl min a = a ∨ l.foldl min a ∈ l) ∧ l.foldl min a ≤ a ∧ ∀ y ∈ l, l.foldl min a ≤ y := by
      intro l
      induction l with
      | nil => intro a; exact ⟨.inl rfl, Int.le_refl _, fun y h => nomatch h⟩
      | cons b l ih =>
        intro a
        obtain ⟨i1, i2, i3⟩ := ih (min a b)
        simp only [List.foldl_cons]
        refine ⟨?_, by omega, fun y hy => ?_⟩
        · rcases i1 with i1 | i1
          · rw [i1]
            by_cases q : a ≤ b
            · left; omega
            · right; rw [show min a b = b by omega]; exact List.mem_cons_self
          · exact .inr (List.mem_cons_of_mem _ i1)
        · rcases List.mem_cons.mp hy with rfl | hy
          · omega
          · exact i3 y hy
    obtain ⟨k1, k2, k3⟩ := key xs x
    have a1 : m' ≤ xs.foldl min x := by
      rcases k1 with q | q
      · rw [q]; exact h2 x List.mem_cons_self
      · exact h2 _ (List.mem_cons_of_mem _ q)
    have a2 : xs.foldl min x ≤ m' := by
      rcases List.mem_cons.mp h1 with rfl | q
      · exact k2
      · exact k3 _ q
    omega
theorem p_max1 (hc : X.calm = true) : CallR X (.builtin "max") (rP X.K .max1) := by
  intro pins s σ H xs us Q I r ⟨g, O, ds, d, o, ap, bs, ha, k⟩
  simp only [P.app, aMax1] at ha
  split at ha
  · obtain ⟨m, hm, hd⟩ := Option.map_eq_some_iff.mp ha
    cases hd
    obtain ⟨is, hi, hm⟩ := Option.bind_eq_some_iff.mp hm
    obtain ⟨x, rfl, bx⟩ := bs.one
    obtain ⟨a, vs, rfl, h, z, r'⟩ := bx.lst_
    rw [ints_of r' hi] at h
    refine cr_max hc pins s σ H _ us Q I r ⟨a, is, rfl, .inl (.inl h), ?_, fun m' h1 h2 => ?_⟩
    · cases is with
      | nil => cases hm
      | cons x xs => exact Nat.succ_pos _
    · rw [← maxI_of hm h1 h2]
      exact k _ H Grow.refl (Rep.int _)
  · cases ha
theorem p_min1 (hc : X.calm = true) : CallR X (.builtin "min") (rP X.K .min1) := by
  intro pins s σ H xs us Q I r ⟨g, O, ds, d, o, ap, bs, ha, k⟩
  simp only [P.app, aMin1] at ha
  split at ha
  · obtain ⟨m, hm, hd⟩ := Option.map_eq_some_iff.mp ha
    cases hd
    obtain ⟨is, hi, hm⟩ := Option.bind_eq_some_iff.mp hm
    obtain ⟨x, rfl, bx⟩ := bs.one
    obtain ⟨a, vs, rfl, h, z, r'⟩ := bx.lst_
    rw [ints_of r' hi] at h
    refine cr_min hc pins s σ H _ us Q I r ⟨a, is, rfl, .inl (.inl h), ?_, fun m' h1 h2 => ?_⟩
    · cases is with
      | nil => cases hm
      | cons x xs => exact Nat.succ_pos _
    · rw [← minI_of hm h1 h2]
      exact k _ H Grow.refl (Rep.int _)
  · cases ha
theorem p_int : CallR X (.type "int") (rP X.K .int) := by
  intro pins s σ H xs us Q I r ⟨g, O, ds, d, o, ap, bs, ha, k⟩
  simp only [P.app, aInt] at ha
  split at ha
  · cases ha
    obtain ⟨x, rfl, bx⟩ := bs.one
    have e := bx.bl_
    subst e
    exact call_int1 pins s σ H _ us Q I r (.inr ⟨_, rfl, k _ H Grow.refl (Rep.int _)⟩)
  · cases ha
/-- isinstance(x, T), T a built-in class -/
theorem kb_non : ∀ t : Ty, kitB "NoneType" t.name = some (isiB .non t) := by intro t; cases t <;> decide +kernel
theorem kb_bl (c : Bool) : ∀ t : Ty, kitB "bool" t.name = some (isiB (.bl c) t) := by
  have h : ∀ t : Ty, kitB "bool" t.name = some (isiB (.bl true) t) := by intro t; cases t <;> decide +kernel
  intro t; rw [h t]; cases t <;> rfl
theorem kb_int (c : Int) : ∀ t : Ty, kitB "int" t.name = some (isiB (.int c) t) := by
  have h : ∀ t : Ty, kitB "int" t.name = some (isiB (.int 0) t) := by intro t; cases t <;> decide +kernel
  intro t; rw [h t]; cases t <;> rfl
theorem kb_str (c : Str) : ∀ t : Ty, kitB "str" t.name = some (isiB (.str c) t) := by
  have h : ∀ t : Ty, kitB "str" t.name = some (isiB (.str ⟨#[]⟩) t) := by intro t; cases t <;> decide +kernel
  intro t; rw [h t]; cases t <;> rfl
theorem kb_lst (c : List D) : ∀ t : Ty, kitB "list" t.name = some (isiB (.lst c) t) := by
  have h : ∀ t : Ty, kitB "list" t.name = some (isiB (.lst []) t) := by intro t; cases t <;> decide +kernel
  intro t; rw [h t]; cases t <;> rfl
theorem kb_tup (c : List D) : ∀ t : Ty, kitB "tuple" t.name = some (isiB (.tup c) t) := by
  have h : ∀ t : Ty, kitB "tuple" t.name = some (isiB (.tup []) t) := by intro t; cases t <;> decide +kernel
  intro t; rw [h t]; cases t <;> rfl
theorem kb_dct (c e : List D) : ∀ t : Ty, kitB "dict" t.name = some (isiB (.dct c e) t) := by
  have h : ∀ t : Ty, kitB "dict" t.name = some (isiB (.dct [] []) t) := by intro t; cases t <;> decide +kernel
  intro t; rw [h t]; cases t <;> rfl
theorem isi_ty {K : PySem.W.Frag} {g : G} {H : Hp} {d : D} {v : V} {t : Ty} {b : Bool} (r : RepB K g H d v) (h : isiD d t = some b) : ∃ n, TyX K H v (.type n) ∧ kitB n t.name = some b := by
  cases d with
  | non => cases r; cases h; exact ⟨_, .base .non, kb_non t⟩
  | bl c => cases r; cases h; exact ⟨_, .base (.bl c), kb_bl c t⟩
  | int i => cases r; cases h; exact ⟨_, .base (.int i), kb_int i t⟩
  | str z => cases r; cases h; exact ⟨_, .base (.str z), kb_str z t⟩
  | lst xs =>
    obtain ⟨a, vs, rfl, e, _⟩ := r
    cases h
    exact ⟨_, .base (.lst e), kb_lst xs t⟩
  | tup xs =>
    cases r with
    | tup e z r =>
      cases h
      rcases e with (e | ⟨o, e⟩) | ⟨o, its, n, e, c, _⟩
      · exact ⟨_, .base (.tup e), kb_tup xs t⟩
      · exact ⟨_, .fTuple e, kb_tup xs t⟩
      · exact ⟨_, .kTuple e c, kb_tup xs t⟩
  | dct ks vs =>
    cases r with
    | dct e f q r =>
      cases h
      exact ⟨_, .base (.dK e), kb_dct _ _ t⟩
  | ref l => cases h
  | scr ns => cases h
theorem p_isi (t : Ty) : CallR X (.builtin "isinstance") (fun xs H Q => ∃ x, xs = [x, .ty t.name] ∧ rP X.K (.isi t) [x] H Q) := by
  intro pins s σ H xs us Q I r ⟨x, ex, g, O, ds, d, o, ap, bs, ha, k⟩
  subst ex
  simp only [P.app, aIsi] at ha
  split at ha
  · obtain ⟨b, hb, hd⟩ := Option.map_eq_some_iff.mp ha
    cases hd
    obtain ⟨x', e, bx⟩ := bs.one
    have e1 := list1 e
    subst e1
    obtain ⟨n, ty, kb⟩ := isi_ty bx hb
    exact call_isi pins s σ H _ us Q I r ⟨x, .ty t.name, .type n, .type t.name, b, rfl, .ty _, ty, kit_ty kb, k _ H Grow.refl (Rep.bl _)⟩
  · cases ha
/-! what a value reads as -/
theorem zip_fst {α β : Type} : ∀ {xs : List α} {ys : List β}, xs.length = ys.length → (xs.zip ys).map (·.1) = xs ∧ (xs.zip ys).map (·.2) = ys
  | [], [], _ => ⟨rfl, rfl⟩
  | x :: xs, y :: ys, h => by
    obtain ⟨e1, e2⟩ := zip_fst (xs := xs) (ys := ys) (by simpa using h)
    refine ⟨?_, ?_⟩
    · show x :: (xs.zip ys).map (·.1) = _
      rw [e1]
    · show y :: (xs.zip ys).map (·.2) = _
      rw [e2]
  | [], _ :: _, h => by cases h
  | _ :: _, [], h => by cases h
theorem pys_length : ∀ xs : List D, (D.pys xs).length = xs.length
  | [] => rfl
  | x :: xs => by simp only [D.pys, List.length_cons, pys_length xs]
theorem dict_keys {P : Program} {w : World} {h : Heap} : ∀ {kvs : List (Key × V)} {es : List DictEntry} {ws : List (Key × Value)}, KV kvs ws → PySem.Pairs (mixKind P w) es ws →
    ReadsAll h (es.map (·.key)) (D.pys (kvs.map fun kv => keyD kv.1)) [] ∧ Vals (kvs.map (·.2)) (es.map (·.val))
  | [], _, _, k, p => by
    cases k
    cases p
    exact ⟨.nil, .nil⟩
  | (k0, v0) :: kvs, _, _, k, p => by
    cases k with
    | @cons _ kv _ _ q r =>
      cases p with
      | @cons e _ es _ p1 p2 p3 =>
        obtain ⟨r1, r2⟩ := dict_keys (h := h) r p3
        obtain ⟨q1, q2⟩ := q
        have q1 : k0 = kv.1 := q1
        have q2 : L2.RelV v0 kv.2 := q2
        rw [← p2] at q2
        rw [← q1] at p1
        refine ⟨?_, .cons q2 r2⟩
        have p1 : keyIs k0 _ = true := p1
        rcases keyIs_shape p1 with ⟨i, t, e1, e2⟩ | ⟨x, t, e1, e2⟩
        · rw [List.map_cons, List.map_cons]
          subst e1
          rw [e2]
          exact ReadsAll.cons (as := []) (Reads.int i t) r1
        · rw [List.map_cons, List.map_cons]
          subst e1
          rw [e2]
          exact ReadsAll.cons (as := []) (Reads.str x t) r1
mutual
theorem reads_of {pins : List (Addr × Obj)} {s : Shared} {σ : L2.St} {H : Hp} {g : G} (I : Inv X pins σ H s) : ∀ {d : D} {v : V}, Rep X.K g H d v → d.pure = true → ∀ {u : Value}, RelV v u → ∃ as, Reads s.heap u d.py as ∧ ∀ a ∈ as, H a ≠ none
  | _, _, .non, _, _, r => by
    cases r
    exact ⟨[], .none, fun _ z => nomatch z⟩
  | _, _, .bl b, _, _, r => by
    cases r
    exact ⟨[], .bool b, fun _ z => nomatch z⟩
  | _, _, .int i, _, _, r => by
    obtain ⟨t, rfl⟩ := r
    exact ⟨[], .int i t, fun _ z => nomatch z⟩
  | _, _, .str x, _, _, r => by
    obtain ⟨t, rfl⟩ := r
    exact ⟨[], .str x t, fun _ z => nomatch z⟩
  | _, _, .tup h z r, p, _, q => by
    cases q
    obtain ⟨its, rv, ⟨o, ho, hc, n, hd⟩, _⟩ := I.tuple h
    obtain ⟨as, hr, w⟩ := readss_of I r (by simpa only [D.pure] using p) rv
    exact ⟨as, Reads.tuple ho hc hd hr, w⟩
  | _, _, .lst h f z r, p, _, q => by
    cases q
    obtain ⟨its, rv, ⟨o, n, ho, hc, _, hd⟩, _⟩ := I.list (SqL.of h)
    obtain ⟨as, hr, w⟩ := readss_of I r (by simpa only [D.pure] using p) rv
    refine ⟨_ :: as, Reads.list ho hc hd hr, fun b hb => ?_⟩
    rcases List.mem_cons.mp hb with e | hb
    · rw [e, h]; exact Option.some_ne_none _
    · exact w b hb
  | _, _, .dct (kvs := kvs) (xs := xs) h f e r, p, _, q => by
    cases q
    obtain ⟨_, _, ws, kv, o, es, ep, ho, ⟨hc, _, _⟩, hd, _, ps, _⟩ := I.hok _ _ h
    obtain ⟨k1, k2⟩ := dict_keys (h := s.heap) kv ps
    rw [← e] at k2
    have p : (D.pures (kvs.map fun kv => keyD kv.1) && D.pures xs && ((kvs.map fun kv => keyD kv.1).length == xs.length)) = true := p
    rw [Bool.and_eq_true, Bool.and_eq_true] at p
    obtain ⟨as, hr, w⟩ := readss_of I r p.1.2 k2
    have hl : (D.pys (kvs.map fun kv => keyD kv.1)).length = (D.pys xs).length := by
      rw [pys_length, pys_length]
      exact beq_iff_eq.mp p.2
    obtain ⟨z1, z2⟩ := zip_fst hl
    refine ⟨_ :: [] ++ as, Reads.dict ho hc hd (by rw [z1]; exact k1) (by rw [z2]; exact hr), fun b hb => ?_⟩
    rcases List.mem_cons.mp hb with e | hb
    · rw [e, h]; exact Option.some_ne_none _
    · exact w b hb
  | _, _, .ref h, p, _, _ => by simp [D.pure] at p
  | _, _, .scr h, p, _, _ => by simp [D.pure] at p
theorem readss_of {pins : List (Addr × Obj)} {s : Shared} {σ : L2.St} {H : Hp} {g : G} (I : Inv X pins σ H s) : ∀ {ds : List D} {vs : List V}, Reps X.K g H ds vs → D.pures ds = true → ∀ {us : List Value}, Vals vs us → ∃ as, ReadsAll s.heap us (D.pys ds) as ∧ ∀ a ∈ as, H a ≠ none
  | _, _, .nil, _, _, r => by
    cases r
    exact ⟨[], .nil, fun _ z => nomatch z⟩
  | _, _, .cons a t, p, _, r => by
    cases r with
    | cons r1 r2 =>
      simp only [D.pures, Bool.and_eq_true] at p
      obtain ⟨as, q1, w1⟩ := reads_of I a p.1 r1
      obtain ⟨bs, q2, w2⟩ := readss_of I t p.2 r2
      refine ⟨as ++ bs, .cons q1 q2, fun b hb => ?_⟩
      rcases List.mem_append.mp hb with hb | hb
      · exact w1 b hb
      · exact w2 b hb
end
theorem readsB {pins : List (Addr × Obj)} {s : Shared} {σ : L2.St} {H : Hp} {g : G} (I : Inv X pins σ H s) {d : D} {v : V} (r : RepB X.K g H d v) (p : d.pure = true) {u : Value} (q : RelV v u) : ∃ as, Reads s.heap u d.py as ∧ ∀ a ∈ as, H a ≠ none := by
  cases d with
  | lst xs =>
    obtain ⟨a, vs, rfl, h, z, r⟩ := r
    cases q
    obtain ⟨its, rv, ⟨o, n, ho, hc, _, hd⟩, _⟩ := I.list (SqL.of h)
    obtain ⟨as, hr, w⟩ := readss_of I r (by simpa only [D.pure] using p) rv
    refine ⟨_ :: as, Reads.list ho hc hd hr, fun b hb => ?_⟩
    rcases List.mem_cons.mp hb with e | hb
    · rw [e, h]; exact Option.some_ne_none _
    · exact w b hb
  | non => exact reads_of I (g := g) (d := .non) r p q
  | bl b => exact reads_of I (g := g) (d := .bl b) r p q
  | int i => exact reads_of I (g := g) (d := .int i) r p q
  | str x => exact reads_of I (g := g) (d := .str x) r p q
  | tup xs => exact reads_of I (g := g) (d := .tup xs) r p q
  | dct ks vs => exact reads_of I (g := g) (d := .dct ks vs) r p q
  | ref l => simp [D.pure] at p
  | scr ns => simp [D.pure] at p
/-- repr of data -/
theorem repr_run {pins : List (Addr × Obj)} {s : Shared} {σ : L2.St} {H : Hp} {u : Value} {d : PyData} {as : List Addr} {Q : VK} (hg : X.A.guards = some []) (hu : X.A.units + 100 < cLine) (I : Inv X pins σ H s) (rd : Reads s.heap u d as)
    (ns : sysModules ∉ as) (dp : d.depth ≤ 64) (sh : d.showable = true) (sz : d.shown.length ≤ sizeLine) (q : Q (.str d.shown) H) : wpAny (model X.prog X.w) X.A (call (.builtin "repr") [u]) (EP X pins σ Q) X.xe s := by
  have fin : ∀ h' t tk, (∀ b o, s.heap.get? b = some o → h'.get? b = some o) → EP X pins σ Q (.str d.shown t) { s with heap := h', toks := tk } := fun h' t tk k => ⟨.str d.shown, H, I.kept k, ⟨_, rfl⟩, q⟩
  have hr : ∀ a, u = .ref a → wpAny (model X.prog X.w) X.A (call (.builtin "repr") [u]) (EP X pins σ Q) X.xe s := fun a e => by
    subst e
    exact repr_of_reads' rd sh (fun _ => ns) hg (by omega) (fun _ _ e => e) (fun h' t tk k => fin h' t tk k) sz
  cases rd with
  | none => exact PySem.P.repr_of_none (by have := fin s.heap s.toks (s.toks + 1) (fun _ _ e => e); simpa only [PyData.shown] using this)
  | bool b => exact PySem.P.repr_of_bool (by have := fin s.heap s.toks (s.toks + 1) (fun _ _ e => e); simpa only [PyData.shown] using this)
  | int i t => exact PySem.P.repr_of_int (by simpa [PyData.showable] using sh) (by have := fin s.heap s.toks (s.toks + 1) (fun _ _ e => e); simpa only [PyData.shown] using this)
  | str x t => exact PySem.P.repr_of_str (by have := fin s.heap s.toks (s.toks + 1) (fun _ _ e => e); simpa only [PyData.shown] using this) (by simpa only [PyData.shown] using sz)
  | list h1 h2 h3 h4 => exact hr _ rfl
  | tuple h1 h2 h3 h4 => exact hr _ rfl
  | dict h1 h2 h3 h4 h5 => exact hr _ rfl
theorem p_repr (hg : X.A.guards = some []) (hu : X.A.units + 100 < cLine) (hs : ∃ o, X.base.get? sysModules = some o) : CallR X (.builtin "repr") (rP X.K .repr) := by
  intro pins s σ H xs us Q I r ⟨g, O, ds, d, o, ap, bs, ha, k⟩
  simp only [P.app, aRepr] at ha
  split at ha
  · split at ha
    · rename_i dd hc
      cases ha
      obtain ⟨c, c4⟩ := Bool.and_eq_true_iff.mp hc
      obtain ⟨c, c3⟩ := Bool.and_eq_true_iff.mp c
      obtain ⟨c1, c2⟩ := Bool.and_eq_true_iff.mp c
      obtain ⟨x, rfl, bx⟩ := bs.one
      obtain ⟨u, rfl, rx⟩ := vals1 r
      obtain ⟨as, rd, w⟩ := readsB I bx c1 rx
      obtain ⟨so, hso⟩ := hs
      exact repr_run hg hu I rd (fun z => w _ z (I.bs _ so hso).2) (of_decide_eq_true c2) c3 (SZ_eq ▸ of_decide_eq_true c4) (k _ H Grow.refl (Rep.str _))
    · cases ha
  · cases ha
end
end Dd

/-! Dd7: what is to be shown of a core term; defs by contract; the small terms. -/
namespace Dd
open L2 PyProof.Rows PySem.Spec PySem

/-- an exception: its class, what it bears -/
def ExcRep (K : PySem.W.Frag) (xc : Str → Value) (g : G) (H : Hp) (x : Exc) (cls : Value) (dd : Option Addr) : Prop :=
  cls = xc x.cls ∧ match x.arg with
    | none => dd = none
    | some d => ∃ a v, dd = some a ∧ H a = some (.xd [(("stuck" : Str), v)]) ∧ Rep K g H d v
/-- a def's promise: what F tells -/
def spD (K : PySem.W.Frag) (xc : Str → Value) (F : FnD) : Sp := fun vs H Q E => ∃ g h ds, Cells K g h H ∧ Reps K g H ds vs ∧
  match F ds h with
  | .ok r h' => ∀ v g' H', Keep none_ g H none_ g' H' → Cells K g' h' H' → RepR K H g' H' none_ r.1 r.2 v → Q v H'
  | .exc x h' => ∀ cls dd g' H', Keep none_ g H none_ g' H' → Cells K g' h' H' → ExcRep K xc g' H' x cls dd → E cls dd H'
  | .stuck => False
/-- the def at f does what F tells, where nothing is being shown (no repr is under way) -/
structure FnG (P : Program) (w : World) (K : PySem.W.Frag) (mg : Str → Option Value) (base : Heap) (xc : Str → Value) (k : Nat) (f : Addr) (fd : FuncData) (ps : List Str) (F : FnD) : Prop where
  len : ∀ ds h, F ds h ≠ .stuck → ds.length = ps.length
  run : ∀ (A : Around) (outer : List Env) (s : Shared) (H : Hp) (args : Args) (us : List Value) (vs : List V) (Q : VK) (E : XK), Room k A → A.guards = some [] → Env0 P w K mg base A outer s H → BindsTo s fd args (ps.zip us) → Vals vs us → spD K xc F vs H Q E →
    codeAny (model P w) A (.call (.ref f) args) (CR (L2.CX P w) outer P w H s Q E) s
/-- a def that is called by its name -/
def Callee (X : Cx) (xc : Str → Value) (x : Str) (F : FnD) : Prop := ∃ (f : Addr) (fd : FuncData) (ps : List Str) (k : Nat), FnG X.prog X.w X.K X.mg X.base xc k f fd ps F ∧ Room k X.A ∧
  X.mg x = some (.ref f) ∧ PySem.W.keepIn X.K (.ref f) = true ∧ Binds X.K fd ps []
/-- a constant of the module -/
def GlbOk (X : Cx) (x : Str) (d : D) : Prop := ∃ u v, X.mg x = some u ∧ RelV v u ∧ ∀ g H, Rep X.K g H d v
section
variable {X : Cx} {W : WX} {xc : Str → Value} {x : Str} {F : FnD}
theorem run_callee {pins : List (Addr × Obj)} {σ : L2.St} {H : Hp} {s : Shared} {Q : VK} {us : List Value} {vs : List V} (c : Callee X xc x F) (hg : X.A.guards = some []) (tk : Takes X W) (I : Inv X pins σ H s) (r : Vals vs us)
    (h : spD X.K xc F vs H Q fun cls dd H' => W cls dd σ H') {f : Addr} (hf : X.mg x = some (.ref f)) : wpAny (model X.prog X.w) X.A (call (.ref f) us) (EP X pins σ Q) X.xe s := by
  obtain ⟨f', fd, ps, k, G, hr, hm, hk, hb⟩ := c
  rw [hf] at hm
  cases hm
  have hl : us.length = ps.length := by
    obtain ⟨g, h0, ds, cc, rs, q⟩ := h
    rw [← r.length, ← rs.length]
    refine G.len ds h0 fun z => ?_
    rw [z] at q
    exact q
  have b := hb s us I.kIn (by rw [List.append_nil]; exact hl)
  rw [List.append_nil] at b
  refine wpAny_call (codeAny_mono (G.run X.A X.stack s H ⟨us, []⟩ us vs Q _ hr hg I.env0 b r h) fun res s' hq => ?_)
  cases res with
  | error e => exact tk e s' (XE.of_call I (fun _ _ _ z => z) hq)
  | ok fl =>
    cases fl with
    | ret u => exact I.after hq
    | next => exact False.elim hq
    | brk => exact False.elim hq
    | cont => exact False.elim hq
end

/-- what is wanted behind a piece of code -/
def post {α : Type} (K : PySem.W.Frag) (en : Ent) (W : WX) (σ : L2.St) (O : Addr → Prop) (g : G) (H : Hp) (o : Out Sta α) (k : α → Sta → G → Hp → Prop) : Prop := match o with
  | .ok a s' => ∀ g' H', SR K en g' s' σ H' → Keep O g H (Own s'.sl σ) g' H' → k a s' g' H'
  | .exc x s' => ∀ cls dd g' H', SR K en g' s' σ H' → Keep O g H (Own s'.sl σ) g' H' → ExcRep K en.xc g' H' x cls dd → W cls dd σ H'
  | .stuck => False
/-- a term's reading -/
def tSim (K : PySem.W.Frag) (en : Ent) (W : WX) (c : C) : TE := fun σ H Q => ∃ g s, SR K en g s σ H ∧
  post K en W σ (Own s.sl σ) g H (ev c s) fun r s' g' H' => ∀ v, RepR K H g' H' (Own s'.sl σ) r.1 r.2 v → Q v H'
/-- .. as a value that stays -/
def tSimF (K : PySem.W.Frag) (en : Ent) (W : WX) (c : C) : TE := fun σ H Q => ∃ g s, SR K en g s σ H ∧
  post K en W σ (Own s.sl σ) g H (ev c s) fun r s' g' H' => ∀ v, Rep K g' H' r.1 v → Q v H'
/-- as a test -/
def tSimT (K : PySem.W.Frag) (en : Ent) (W : WX) (c : C) : TT := fun σ H Q => ∃ g s, SR K en g s σ H ∧
  post K en W σ (Own s.sl σ) g H (ev c s) fun r s' g' H' => ∃ b, r.1 = .bl b ∧ Q b H'
def tSims (K : PySem.W.Frag) (en : Ent) (W : WX) (cs : Cs) : TA := fun σ H Q => ∃ g s, SR K en g s σ H ∧
  post K en W σ (Own s.sl σ) g H (evs cs s) fun ds s' g' H' => ∀ vs, Reps K g' H' ds vs → Q vs H'
/-- an operand -/
def OpdRep (K : PySem.W.Frag) (g : G) (H : Hp) (σ : L2.St) : Opd → V → Prop
  | .sl i, v => σ[i]? = some (some v)
  | .d d, v => Rep K g H d v
inductive OpdReps (K : PySem.W.Frag) (g : G) (H : Hp) (σ : L2.St) : List Opd → List V → Prop
  | nil : OpdReps K g H σ [] []
  | cons {o : Opd} {v : V} {os : List Opd} {vs : List V} : OpdRep K g H σ o v → OpdReps K g H σ os vs → OpdReps K g H σ (o :: os) (v :: vs)
def tSimO (K : PySem.W.Frag) (en : Ent) (W : WX) (c : C) : TE := fun σ H Q => ∃ g s, SR K en g s σ H ∧
  post K en W σ (Own s.sl σ) g H (opdOf c (ev c) s) fun o s' g' H' => ∀ v, OpdRep K g' H' σ o v → Q v H'
def tSimOs (K : PySem.W.Frag) (en : Ent) (W : WX) (cs : Cs) : TA := fun σ H Q => ∃ g s, SR K en g s σ H ∧
  post K en W σ (Own s.sl σ) g H (evo cs s) fun os s' g' H' => ∀ vs, OpdReps K g' H' σ os vs → Q vs H'

section
variable {X : Cx} {e : Expr} {t t' : TE}
theorem _root_.L2.PE.impD (h : PE X e t) (w : ∀ σ H Q, t' σ H Q → t σ H Q) : PE X e t' := ⟨fun pins s σ H Q I q => h.run pins s σ H Q I (w σ H Q q)⟩
theorem _root_.L2.PT.impD {t t' : TT} (h : PT X e t) (w : ∀ σ H Q, t' σ H Q → t σ H Q) : PT X e t' := ⟨fun pins s σ H Q I q => h.run pins s σ H Q I (w σ H Q q)⟩
theorem _root_.L2.PW.impD {t t' : TT} (h : PW X e t) (w : ∀ σ H Q, t' σ H Q → t σ H Q) : PW X e t' := ⟨fun wh pins s σ H Q I q => h.run wh pins s σ H Q I (w σ H Q q)⟩
theorem _root_.L2.PA.impD {es : List Expr} {t t' : TA} (h : PA X es t) (w : ∀ σ H Q, t' σ H Q → t σ H Q) : PA X es t' := ⟨fun pos pins s σ H Q I q => h.run pos pins s σ H Q I (w σ H Q q)⟩
end

section
variable {K : PySem.W.Frag} {en : Ent} {W : WX} {σ : L2.St} {O : Addr → Prop} {g : G} {H : Hp} {α β : Type}
theorem post_bind {o : Out Sta α} {f : α → Sta → Out Sta β} {k : β → Sta → G → Hp → Prop} (h : post K en W σ O g H (o.bind f) k) :
    post K en W σ O g H o fun a s' g' H' => post K en W σ (Own s'.sl σ) g' H' (f a s') k := by
  cases o with
  | ok a s' =>
    intro g' H' r kp
    have h : post K en W σ O g H (f a s') k := h
    cases hf : f a s' with
    | ok b s2 =>
      rw [hf] at h
      intro g2 H2 r2 k2
      exact h g2 H2 r2 (kp.trans k2)
    | exc x s2 =>
      rw [hf] at h
      intro cls dd g2 H2 r2 k2 ex
      exact h cls dd g2 H2 r2 (kp.trans k2) ex
    | stuck =>
      rw [hf] at h
      exact h
  | exc x s' => exact h
  | stuck => exact h
theorem post_shift {O1 : Addr → Prop} {g1 : G} {H1 : Hp} {o : Out Sta α} {k : α → Sta → G → Hp → Prop} (k1 : Keep O g H O1 g1 H1) (h : post K en W σ O g H o k) : post K en W σ O1 g1 H1 o k := by
  cases o with
  | ok a s' => exact fun g' H' r kp => h g' H' r (k1.trans kp)
  | exc x s' => exact fun cls dd g' H' r kp ex => h cls dd g' H' r (k1.trans kp) ex
  | stuck => exact h
theorem post_imp {o : Out Sta α} {k k' : α → Sta → G → Hp → Prop} (h : post K en W σ O g H o k) (w : ∀ a s' g' H', o = .ok a s' → SR K en g' s' σ H' → Keep O g H (Own s'.sl σ) g' H' → k a s' g' H' → k' a s' g' H') : post K en W σ O g H o k' := by
  cases o with
  | ok a s' => exact fun g' H' r kp => w a s' g' H' rfl r kp (h g' H' r kp)
  | exc x s' => exact h
  | stuck => exact h
/-- behind a result that is made to stay -/
theorem tSim_F {c : C} {Q : VK} (h : tSimF K en W c σ H Q) : tSim K en W c σ H Q := by
  obtain ⟨g, s, r, h⟩ := h
  refine ⟨g, s, r, ?_⟩
  cases hc : ev c s with
  | ok a s' =>
    rw [hc] at h
    intro g' H' r' kp v q
    obtain ⟨g2, r2, k2, rep⟩ := r'.freeze kp (fun _ z => r.fresh0 z) q
    exact h g2 H' r2 k2 v rep
  | exc x s' => rw [hc] at h; exact h
  | stuck => rw [hc] at h; exact h
theorem OpdRep.keep {O' : Addr → Prop} {g' : G} {H' : Hp} (k : Keep O g H O' g' H') (p : Apart O g H) {o : Opd} {v : V} (r : OpdRep K g H σ o v) : OpdRep K g' H' σ o v := by
  cases o with
  | sl i => exact r
  | d d => exact Rep.keep k p r
theorem OpdReps.keep {O' : Addr → Prop} {g' : G} {H' : Hp} (k : Keep O g H O' g' H') (p : Apart O g H) : ∀ {os : List Opd} {vs : List V}, OpdReps K g H σ os vs → OpdReps K g' H' σ os vs
  | _, _, .nil => .nil
  | _, _, .cons r t => .cons (r.keep k p) (t.keep k p)
theorem rd_of {s : Sta} {o : Opd} {d : D} {v : V} (r : SR K en g s σ H) (q : OpdRep K g H σ o v) (h : o.rd s = some d) : RepB K g H d v := by
  have der : ∀ {d0 : D} {u : V}, Rep K g H d0 u → RepB K g H (derefD s.h d0) u := by
    intro d0 u rep
    cases d0 with
    | ref l =>
      cases rep with
      | ref hm =>
        rename_i a
        show RepB K g H (match s.h[l]? with
          | some (.lst xs) => .lst xs
          | _ => .ref l) (.ref a)
        have keepR : RepB K g H (.ref l) (.ref a) := Rep.ref hm
        cases hl : s.h[l]? with
        | none => exact keepR
        | some co =>
          cases co with
          | lst xs =>
            obtain ⟨vs, e, z, t⟩ := r.cells.at_ l a _ hm hl
            exact ⟨a, vs, rfl, e, z, t⟩
          | dct kvs => exact keepR
          | ins c fs => exact keepR
    | non => exact rep.b
    | bl b => exact rep.b
    | int i => exact rep.b
    | str z => exact rep.b
    | tup xs => exact rep.b
    | lst xs => exact rep.b
    | dct ks vs => exact rep.b
    | scr ns => exact rep.b
  unfold Opd.rd at h
  obtain ⟨d0, h0, rfl⟩ := Option.map_eq_some_iff.mp h
  cases o with
  | d d1 =>
    cases h0
    exact der q
  | sl i =>
    have hv : s.sl.val i = some d0 := h0
    unfold Slots.val at hv
    cases hs : s.sl[i]? with
    | none => rw [hs] at hv; cases hv
    | some x =>
      cases x with
      | none => rw [hs] at hv; cases hv
      | some p =>
        obtain ⟨d', fl⟩ := p
        rw [hs] at hv
        cases hv
        obtain ⟨v', e1, sr⟩ := r.slot i d0 fl hs
        have e2 : σ[i]? = some (some v) := q
        rw [e2] at e1
        cases e1
        cases fl with
        | false => exact der sr
        | true =>
          obtain ⟨xs, a, vs, rfl, rfl, e3, z, t⟩ := sr
          exact ⟨a, vs, rfl, e3, z, t⟩
theorem rds_of {s : Sta} (r : SR K en g s σ H) : ∀ {os : List Opd} {vs : List V} {ds : List D}, OpdReps K g H σ os vs → rdAll s os = some ds → RepBs K g H ds vs
  | _, _, _, .nil, h => by cases h; exact .nil
  | _, _, _, .cons q t, h => by
    unfold rdAll at h
    split at h
    · rename_i d ds h1 h2
      cases h
      exact .cons (rd_of r q h1) (rds_of r t h2)
    · cases h
/-- a primitive behind its operands -/
theorem prim_fin {O0 : Addr → Prop} {g0 : G} {H0 : Hp} {s : Sta} {os : List Opd} {vs : List V} {p : P} {k : D × Bool → Sta → G → Hp → Prop} {Q : VK} (r : SR K en g s σ H) (kp : Keep O0 g0 H0 (Own s.sl σ) g H) (q : OpdReps K g H σ os vs)
    (h : post K en W σ (Own s.sl σ) g H (match rdAll s os with
      | some ds => (match p.app ds with
        | some r => .ok r s
        | none => .stuck)
      | none => .stuck) k) (hk : ∀ r s' g' H', SR K en g' s' σ H' → Keep O0 g0 H0 (Own s'.sl σ) g' H' → k r s' g' H' → ∀ v, RepR K H0 g' H' (Own s'.sl σ) r.1 r.2 v → Q v H') : rP K p vs H Q := by
  split at h
  · rename_i ds hd
    split at h
    · rename_i rr hp
      obtain ⟨d, o⟩ := rr
      refine ⟨g, Own s.sl σ, ds, d, o, r.apart, rds_of r q hd, hp, fun v H' gr nr => ?_⟩
      have r2 := r.same gr
      have k2 : Keep (Own s.sl σ) g H (Own s.sl σ) g H' := Keep.same gr
      refine hk (d, o) s g H' r2 (kp.trans k2) (h g H' r2 k2) v ?_
      cases o with
      | false => exact nr
      | true =>
        obtain ⟨xs, a, ws, e1, e2, e3, e4, z, t⟩ := nr
        have h0 : H0 a = none := by
          cases q : H0 a with
          | none => rfl
          | some u => exact absurd e3 (kp.th a (by rw [q]; exact Option.some_ne_none u))
        exact ⟨xs, a, ws, e1, e2, e4, z, t, r.notF e3, r.notM e3, r.notO e3, h0⟩
    · exact h.elim
  · exact h.elim
end

section
variable {X : Cx} {en : Ent} {W : WX} {pos : Pos}
/-- a name's value -/
theorem sim_var {i : Nat} {x : Str} (hN : X.N[i]? = some x) (hv : Vis X.env.scope x) (hd : (x == ("__debug__" : Str)) = false) (hcd : (x == ("__classdict__" : Str)) = false) : PE X (.Name x pos) (tSim X.K en W (.var i)) :=
  (pe_var hN hv hd hcd).impD fun σ H Q h => by
    obtain ⟨g, s, r, h⟩ := h
    have h : post X.K en W σ (Own s.sl σ) g H (match s.sl.val i with
      | some d => Out.ok (d, false) { s with sl := s.sl.loose i }
      | none => Out.stuck) _ := h
    cases hs : s.sl.val i with
    | none => rw [hs] at h; exact h.elim
    | some d =>
      rw [hs] at h
      obtain ⟨g', v, r', k, e1, rep⟩ := r.loose hs
      exact ⟨v, e1, h g' H r' k v rep⟩
theorem simo_var {i : Nat} {x : Str} (hN : X.N[i]? = some x) (hv : Vis X.env.scope x) (hd : (x == ("__debug__" : Str)) = false) (hcd : (x == ("__classdict__" : Str)) = false) : PE X (.Name x pos) (tSimO X.K en W (.var i)) :=
  (pe_var hN hv hd hcd).impD fun σ H Q h => by
    obtain ⟨g, s, r, h⟩ := h
    have h : post X.K en W σ (Own s.sl σ) g H (match s.sl.val i with
      | some _ => Out.ok (Opd.sl i) s
      | none => Out.stuck) _ := h
    cases hs : s.sl.val i with
    | none => rw [hs] at h; exact h.elim
    | some d =>
      rw [hs] at h
      unfold Slots.val at hs
      cases h1 : s.sl[i]? with
      | none => rw [h1] at hs; cases hs
      | some y =>
        cases y with
        | none => rw [h1] at hs; cases hs
        | some p =>
          obtain ⟨v, e1, _⟩ := r.slot i p.1 p.2 h1
          exact ⟨v, e1, h g H r Keep.refl v e1⟩
/-- a name's own list, made a cell -/
theorem sim_share {i : Nat} {x : Str} (hN : X.N[i]? = some x) (hv : Vis X.env.scope x) (hd : (x == ("__debug__" : Str)) = false) (hcd : (x == ("__classdict__" : Str)) = false) : PE X (.Name x pos) (tSim X.K en W (.share i)) :=
  (pe_var hN hv hd hcd).impD fun σ H Q h => by
    obtain ⟨g, s, r, h⟩ := h
    have h : post X.K en W σ (Own s.sl σ) g H (match s.sl[i]? with
      | some (some (.lst xs, true)) => Out.ok (D.ref s.h.length, false) ⟨s.sl.set i (some (.ref s.h.length, false)), s.h ++ [.lst xs]⟩
      | _ => Out.stuck) _ := h
    split at h
    · rename_i xs hs
      obtain ⟨a, e1, r2, k2, rep⟩ := r.share hs
      exact ⟨.ref a, e1, h _ H r2 k2 (.ref a) rep⟩
    · exact h.elim
/-- any other operand -/
theorem simo_of {c : C} {e : Expr} (h : PE X e (tSim X.K en W c)) (hc : ∀ i, c ≠ .var i) : PE X e (tSimO X.K en W c) := h.impD fun σ H Q q => by
  obtain ⟨g, s, r, q⟩ := q
  have eo : opdOf c (ev c) s = (ev c s).bind fun d s => .ok (.d d.1) s := by
    cases c <;> first | rfl | exact absurd rfl (hc _)
  rw [eo] at q
  refine tSim_F ⟨g, s, r, post_imp (post_bind q) fun a s' g' H' e1 r' k q v rep => ?_⟩
  exact q g' H' r' Keep.refl v rep
/-- a constant -/
theorem sim_lit {e : Expr} {c : C} {d : D} {v : V} (h : PE X e (tC v)) (hc : ∀ s, ev c s = .ok (d, false) s) (rep : ∀ g H, Rep X.K g H d v) : PE X e (tSim X.K en W c) := h.impD fun σ H Q q => by
  obtain ⟨g, s, r, q⟩ := q
  rw [hc] at q
  exact q g H r Keep.refl v (rep g H)
/-- a tuple, a list of written items -/
theorem sim_tup {es : List Expr} {cs : Cs} {k : Nat} (h : PA X es (tSims X.K en W cs)) (hl : ∀ s ds s', evs cs s = .ok ds s' → ds.length ≤ sizeLine) : PE X (.Tuple es k pos) (tSim X.K en W (.tup cs)) :=
  (pe_tup h).impD fun σ H Q q => by
    obtain ⟨g, s, r, q⟩ := q
    have q : post X.K en W σ (Own s.sl σ) g H ((evs cs s).bind fun ds s => Out.ok (D.tup ds, false) s) _ := q
    refine ⟨g, s, r, post_imp (post_bind q) fun ds s' g' H' e1 r' kp q vs rep => ?_⟩
    have z := hl _ _ _ e1
    refine ⟨by rw [← rep.length]; exact z, fun p hp => ?_⟩
    exact q g' _ (r'.same (same_upd hp)) (Keep.same (same_upd hp)) (.ref p) (r'.newT hp rep z)
theorem none_back {O O' : Addr → Prop} {g g' : G} {H H' : Hp} (k : Keep O g H O' g' H') {a : Addr} (h : H' a = none) : H a = none := by
  cases q : H a with
  | none => rfl
  | some o => exact absurd h (k.th a (by rw [q]; exact Option.some_ne_none o))
theorem sim_lst {es : List Expr} {cs : Cs} (h : PA X es (tSims X.K en W cs)) (hl : ∀ s ds s', evs cs s = .ok ds s' → ds.length ≤ sizeLine) : PE X (.List es pos) (tSim X.K en W (.lst cs)) :=
  (pe_lst h).impD fun σ H Q q => by
    obtain ⟨g, s, r, q⟩ := q
    have q : post X.K en W σ (Own s.sl σ) g H ((evs cs s).bind fun ds s => Out.ok (D.lst ds, true) s) _ := q
    refine ⟨g, s, r, post_imp (post_bind q) fun ds s' g' H' e1 r' kp q vs rep => ?_⟩
    have z := hl _ _ _ e1
    refine ⟨by rw [← rep.length]; exact z, fun p hp => ?_⟩
    refine q g' _ (r'.same (same_upd hp)) (Keep.same (same_upd hp)) (.ref p) ?_
    exact ⟨ds, p, vs, rfl, rfl, upd_same, z, rep.keep (Keep.same (O := Own s'.sl σ) (same_upd hp)) r'.apart, r'.notF hp, r'.notM hp, r'.notO hp, none_back kp hp⟩
theorem sim_lstR {es : List Expr} {cs : Cs} (h : PA X es (tSims X.K en W cs)) (hl : ∀ s ds s', evs cs s = .ok ds s' → ds.length ≤ sizeLine) : PE X (.List es pos) (tSim X.K en W (.lstR cs)) :=
  (pe_lst h).impD fun σ H Q q => by
    obtain ⟨g, s, r, q⟩ := q
    have q : post X.K en W σ (Own s.sl σ) g H ((evs cs s).bind fun ds s => Out.ok (D.ref s.h.length, false) { s with h := s.h ++ [CO.lst ds] }) _ := q
    refine ⟨g, s, r, post_imp (post_bind q) fun ds s' g' H' e1 r' kp q vs rep => ?_⟩
    have z := hl _ _ _ e1
    refine ⟨by rw [← rep.length]; exact z, fun p hp => ?_⟩
    obtain ⟨r2, k2, rp⟩ := r'.newCell hp z rep
    exact q _ _ r2 k2 (.ref p) rp
/-- arguments -/
theorem sims_nil : PA X [] (tSims X.K en W .nil) := pa_nil.impD fun σ H Q q => by
  obtain ⟨g, s, r, q⟩ := q
  exact q g H r Keep.refl [] .nil
theorem sims_cons {e : Expr} {es : List Expr} {c : C} {cs : Cs} (h : PE X e (tSim X.K en W c)) (hs : PA X es (tSims X.K en W cs)) (he : starEach (e :: es) X.env = (false, eval e X.env) :: starEach es X.env) :
    PA X (e :: es) (tSims X.K en W (.cons c cs)) := (pa_cons h hs he).impD fun σ H Q q => by
  obtain ⟨g, s, r, q⟩ := q
  have q : post X.K en W σ (Own s.sl σ) g H ((ev c s).bind fun d s => (evs cs s).bind fun ds s => Out.ok (d.1 :: ds) s) _ := q
  refine tSim_F ⟨g, s, r, post_imp (post_bind q) fun a s' g' H' e1 r' k q v rep => ?_⟩
  refine ⟨g', s', r', post_imp (post_bind q) fun ds s2 g2 H2 e2 r2 k2 q2 vs reps => ?_⟩
  exact q2 g2 H2 r2 Keep.refl (v :: vs) (.cons (rep.keep k2 r'.apart) reps)
theorem simos_nil : PA X [] (tSimOs X.K en W .nil) := pa_nil.impD fun σ H Q q => by
  obtain ⟨g, s, r, q⟩ := q
  exact q g H r Keep.refl [] .nil
theorem simos_cons {e : Expr} {es : List Expr} {c : C} {cs : Cs} (h : PE X e (tSimO X.K en W c)) (hs : PA X es (tSimOs X.K en W cs)) (he : starEach (e :: es) X.env = (false, eval e X.env) :: starEach es X.env) :
    PA X (e :: es) (tSimOs X.K en W (.cons c cs)) := (pa_cons h hs he).impD fun σ H Q q => by
  obtain ⟨g, s, r, q⟩ := q
  have q : post X.K en W σ (Own s.sl σ) g H ((opdOf c (ev c) s).bind fun o s => (evo cs s).bind fun os s => Out.ok (o :: os) s) _ := q
  refine ⟨g, s, r, post_imp (post_bind q) fun a s' g' H' e1 r' k q v rep => ?_⟩
  refine ⟨g', s', r', post_imp (post_bind q) fun ds s2 g2 H2 e2 r2 k2 q2 vs reps => ?_⟩
  exact q2 g2 H2 r2 Keep.refl (v :: vs) (.cons (rep.keep k2 r'.apart) reps)
end
end Dd

/-! Dd8: tests, and, or, primitives, calls. -/
namespace Dd
open L2 PyProof.Rows PySem.Spec PySem

section
variable {X : Cx} {en : Ent} {W : WX} {pos : Pos} {K : PySem.W.Frag} {σ : L2.St} {g : G} {H Hs : Hp} {O : Addr → Prop}
theorem RepR.bl_ {b : Bool} {o : Bool} {v : V} (q : RepR K Hs g H O (.bl b) o v) : v = .bl b := by
  cases o with
  | false => cases q; rfl
  | true => obtain ⟨xs, a, vs, e, _⟩ := q; cases e
theorem RepR.int_ {b : Int} {o : Bool} {v : V} (q : RepR K Hs g H O (.int b) o v) : v = .int b := by
  cases o with
  | false => cases q; rfl
  | true => obtain ⟨xs, a, vs, e, _⟩ := q; cases e
/-- a value that is True or False, as a test -/
theorem simt_plain {e : Expr} {c : C} (h : PE X e (tSim X.K en W c)) (he : ∀ whole, isTrue e X.env whole = (do let v ← whole; standAt e.pos; holding [v] (truthy v))) : PT X e (tSimT X.K en W c) :=
  (pt_val h he).impD fun σ H Q q => by
    obtain ⟨g, s, r, q⟩ := q
    refine ⟨g, s, r, post_imp q fun a s' g' H' e1 r' k q v rep => ?_⟩
    obtain ⟨b, eb, q⟩ := q
    rw [eb] at rep
    exact ⟨b, rep.bl_, q⟩
/-- a value's result, behind a test's -/
theorem tSimT_of {c : C} {Q : Bool → Hp → Prop} {s : Sta} (r : SR K en g s σ H) (h : post K en W σ (Own s.sl σ) g H (ev c s) fun a s' g' H' => ∃ b, a.1 = .bl b ∧ Q b H') : tSimT K en W c σ H Q := ⟨g, s, r, h⟩
theorem sim_not {x : Expr} {a : C} (h : PE X x (tSim X.K en W a)) : PE X (.UnaryOp .Not x pos) (tSim X.K en W (.nt a)) := (pe_not h).impD fun σ H Q q => by
  obtain ⟨g, s, r, q⟩ := q
  have q : post X.K en W σ (Own s.sl σ) g H ((ev a s).bind fun d s => match d.1 with
    | .bl b => Out.ok (D.bl (!b), false) s
    | _ => Out.stuck) _ := q
  refine ⟨g, s, r, post_imp (post_bind q) fun d s' g' H' e1 r' k q v rep => ?_⟩
  obtain ⟨d, o⟩ := d
  cases d with
  | bl b => exact ⟨b, rep.bl_, q g' H' r' Keep.refl (.bl (!b)) (Rep.bl (!b))⟩
  | non => exact q.elim
  | int i => exact q.elim
  | str z => exact q.elim
  | tup xs => exact q.elim
  | lst xs => exact q.elim
  | dct ks vs => exact q.elim
  | ref l => exact q.elim
  | scr ns => exact q.elim
theorem simt_not {x : Expr} {a : C} (h : PT X x (tSimT X.K en W a)) : PT X (.UnaryOp .Not x pos) (tSimT X.K en W (.nt a)) := (pt_not h).impD fun σ H Q q => by
  obtain ⟨g, s, r, q⟩ := q
  have q : post X.K en W σ (Own s.sl σ) g H ((ev a s).bind fun d s => match d.1 with
    | .bl b => Out.ok (D.bl (!b), false) s
    | _ => Out.stuck) _ := q
  refine ⟨g, s, r, post_imp (post_bind q) fun d s' g' H' e1 r' k q => ?_⟩
  obtain ⟨d, o⟩ := d
  cases d with
  | bl b =>
    obtain ⟨b', e2, q⟩ := q g' H' r' Keep.refl
    cases e2
    exact ⟨b, rfl, q⟩
  | non => exact q.elim
  | int i => exact q.elim
  | str z => exact q.elim
  | tup xs => exact q.elim
  | lst xs => exact q.elim
  | dct ks vs => exact q.elim
  | ref l => exact q.elim
  | scr ns => exact q.elim
/-- cases of a bool that stands where a test is -/
theorem post_bl {α : Type} {d : D} {s : Sta} {t f : Out Sta α} {k : α → Sta → G → Hp → Prop} (q : post K en W σ O g H (match d with
    | .bl true => t
    | .bl false => f
    | _ => Out.stuck) k) : ∃ b, d = .bl b ∧ post K en W σ O g H (if b = true then t else f) k := by
  cases d with
  | bl b => cases b <;> exact ⟨_, rfl, q⟩
  | non => exact q.elim
  | int i => exact q.elim
  | str z => exact q.elim
  | tup xs => exact q.elim
  | lst xs => exact q.elim
  | dct ks vs => exact q.elim
  | ref l => exact q.elim
  | scr ns => exact q.elim
theorem RepR.fl {d : D} {o : Bool} {v : V} (q : Rep K g H d v) : RepR K Hs g H O d false v := q
/-- the last value of and, or, of a conditional: it stays -/
theorem tail_F {c : C} {s : Sta} {Q : VK} (r : SR K en g s σ H) (q : post K en W σ (Own s.sl σ) g H ((ev c s).bind fun e s => .ok (e.1, false) s) fun a s' g' H' => ∀ v, RepR K Hs g' H' (Own s'.sl σ) a.1 a.2 v → Q v H') : tSim K en W c σ H Q := by
  refine tSim_F ⟨g, s, r, post_imp (post_bind q) fun a s' g' H' e1 r' k q v rep => ?_⟩
  exact q g' H' r' Keep.refl v rep
theorem tail_T {c : C} {s : Sta} {Q : Bool → Hp → Prop} (r : SR K en g s σ H) (q : post K en W σ (Own s.sl σ) g H ((ev c s).bind fun e s => .ok (e.1, false) s) fun a s' g' H' => ∃ b, a.1 = .bl b ∧ Q b H') : tSimT K en W c σ H Q := by
  refine ⟨g, s, r, post_imp (post_bind q) fun a s' g' H' e1 r' k q => ?_⟩
  exact q g' H' r' Keep.refl
theorem sim_and {x y : Expr} {rest : List Expr} {a b : C} (ha : PE X x (tSim X.K en W a)) (hb : PE X (.BoolOp .And (y :: rest) pos) (tSim X.K en W b)) : PE X (.BoolOp .And (x :: y :: rest) pos) (tSim X.K en W (.and a b)) := (pe_and ha hb).impD fun σ H Q q => by
  obtain ⟨g, s, r, q⟩ := q
  have q : post X.K en W σ (Own s.sl σ) g H ((ev a s).bind fun d s => match d.1 with
    | .bl true => (ev b s).bind fun e s => Out.ok (e.1, false) s
    | .bl false => Out.ok (D.bl false, false) s
    | _ => Out.stuck) _ := q
  refine ⟨g, s, r, post_imp (post_bind q) fun d s' g' H' e1 r' k q v rep => ?_⟩
  obtain ⟨c, ec, q⟩ := post_bl (s := s) q
  rw [ec] at rep
  refine ⟨c, rep.bl_, ?_⟩
  cases c with
  | true => exact tail_F r' q
  | false => exact q g' H' r' Keep.refl (.bl false) (Rep.bl false)
theorem sim_or {x y : Expr} {rest : List Expr} {a b : C} (ha : PE X x (tSim X.K en W a)) (hb : PE X (.BoolOp .Or (y :: rest) pos) (tSim X.K en W b)) : PE X (.BoolOp .Or (x :: y :: rest) pos) (tSim X.K en W (.or a b)) := (pe_or ha hb).impD fun σ H Q q => by
  obtain ⟨g, s, r, q⟩ := q
  have q : post X.K en W σ (Own s.sl σ) g H ((ev a s).bind fun d s => match d.1 with
    | .bl true => Out.ok (D.bl true, false) s
    | .bl false => (ev b s).bind fun e s => Out.ok (e.1, false) s
    | _ => Out.stuck) _ := q
  refine ⟨g, s, r, post_imp (post_bind q) fun d s' g' H' e1 r' k q v rep => ?_⟩
  obtain ⟨c, ec, q⟩ := post_bl (s := s) q
  rw [ec] at rep
  refine ⟨c, rep.bl_, ?_⟩
  cases c with
  | true => exact q g' H' r' Keep.refl (.bl true) (Rep.bl true)
  | false => exact tail_F r' q
theorem simw_and {x y : Expr} {rest : List Expr} {a b : C} (ha : PT X x (tSimT X.K en W a)) (hb : PW X (.BoolOp .And (y :: rest) pos) (tSimT X.K en W b)) : PW X (.BoolOp .And (x :: y :: rest) pos) (tSimT X.K en W (.and a b)) := (pw_and ha hb).impD fun σ H Q q => by
  obtain ⟨g, s, r, q⟩ := q
  have q : post X.K en W σ (Own s.sl σ) g H ((ev a s).bind fun d s => match d.1 with
    | .bl true => (ev b s).bind fun e s => Out.ok (e.1, false) s
    | .bl false => Out.ok (D.bl false, false) s
    | _ => Out.stuck) _ := q
  refine ⟨g, s, r, post_imp (post_bind q) fun d s' g' H' e1 r' k q => ?_⟩
  obtain ⟨c, ec, q⟩ := post_bl (s := s) q
  refine ⟨c, ec, ?_⟩
  cases c with
  | true => exact tail_T r' q
  | false =>
    obtain ⟨b', e2, q⟩ := q g' H' r' Keep.refl
    cases e2
    exact q
theorem simw_or {x y : Expr} {rest : List Expr} {a b : C} (ha : PT X x (tSimT X.K en W a)) (hb : PW X (.BoolOp .Or (y :: rest) pos) (tSimT X.K en W b)) : PW X (.BoolOp .Or (x :: y :: rest) pos) (tSimT X.K en W (.or a b)) := (pw_or ha hb).impD fun σ H Q q => by
  obtain ⟨g, s, r, q⟩ := q
  have q : post X.K en W σ (Own s.sl σ) g H ((ev a s).bind fun d s => match d.1 with
    | .bl true => Out.ok (D.bl true, false) s
    | .bl false => (ev b s).bind fun e s => Out.ok (e.1, false) s
    | _ => Out.stuck) _ := q
  refine ⟨g, s, r, post_imp (post_bind q) fun d s' g' H' e1 r' k q => ?_⟩
  obtain ⟨c, ec, q⟩ := post_bl (s := s) q
  refine ⟨c, ec, ?_⟩
  cases c with
  | true =>
    obtain ⟨b', e2, q⟩ := q g' H' r' Keep.refl
    cases e2
    exact q
  | false => exact tail_T r' q
theorem sim_ite {c x y : Expr} {t a b : C} (hc : PT X c (tSimT X.K en W t)) (ha : PE X x (tSim X.K en W a)) (hb : PE X y (tSim X.K en W b)) : PE X (.IfExp c x y pos) (tSim X.K en W (.ite t a b)) := (pe_ifExp hc ha hb).impD fun σ H Q q => by
  obtain ⟨g, s, r, q⟩ := q
  have q : post X.K en W σ (Own s.sl σ) g H ((ev t s).bind fun d s => match d.1 with
    | .bl true => (ev a s).bind fun e s => Out.ok (e.1, false) s
    | .bl false => (ev b s).bind fun e s => Out.ok (e.1, false) s
    | _ => Out.stuck) _ := q
  refine ⟨g, s, r, post_imp (post_bind q) fun d s' g' H' e1 r' k q => ?_⟩
  obtain ⟨c, ec, q⟩ := post_bl (s := s) q
  refine ⟨c, ec, ?_⟩
  cases c with
  | true => exact tail_F r' q
  | false => exact tail_F r' q

/-! ### primitives -/
/-- a primitive's reading over its operands -/
theorem prim_as {p : P} {cs : Cs} {Q : VK} (q : tSim K en W (.prim p cs) σ H Q) : tSimOs K en W cs σ H fun vs H1 => rP K p vs H1 Q := by
  obtain ⟨g, s, r, q⟩ := q
  have q : post K en W σ (Own s.sl σ) g H ((evo cs s).bind fun os s => match rdAll s os with
    | some ds => (match p.app ds with
      | some r => Out.ok r s
      | none => Out.stuck)
    | none => Out.stuck) _ := q
  refine ⟨g, s, r, post_imp (post_bind q) fun os s' g' H' e1 r' k q vs reps => ?_⟩
  exact prim_fin r' k reps q fun r s2 g2 H2 r2 k2 kk => kk
/-- operands one behind another -/
theorem os_cons {c : C} {cs : Cs} {R : List V → Hp → Prop} (q : tSimOs K en W (.cons c cs) σ H R) : tSimO K en W c σ H fun x H1 => tSimOs K en W cs σ H1 fun xs H2 => R (x :: xs) H2 := by
  obtain ⟨g, s, r, q⟩ := q
  have q : post K en W σ (Own s.sl σ) g H ((opdOf c (ev c) s).bind fun o s => (evo cs s).bind fun os s => Out.ok (o :: os) s) _ := q
  refine ⟨g, s, r, post_imp (post_bind q) fun a s' g' H' e1 r' k q v rep => ?_⟩
  refine ⟨g', s', r', post_imp (post_bind q) fun ds s2 g2 H2 e2 r2 k2 q2 vs reps => ?_⟩
  exact q2 g2 H2 r2 Keep.refl (v :: vs) (.cons (rep.keep k2 r'.apart) reps)
theorem os_nil {R : List V → Hp → Prop} (q : tSimOs K en W .nil σ H R) : R [] H := by
  obtain ⟨g, s, r, q⟩ := q
  exact q g H r Keep.refl [] .nil
theorem tSimO_mono {c : C} {Q Q' : VK} (q : tSimO K en W c σ H Q) (w : ∀ v H', Q v H' → Q' v H') : tSimO K en W c σ H Q' := by
  obtain ⟨g, s, r, q⟩ := q
  exact ⟨g, s, r, post_imp q fun a s' g' H' e1 r' k q v rep => w v H' (q v rep)⟩
theorem prim1 {p : P} {a : C} {Q : VK} (q : tSim K en W (.prim p (.cons a .nil)) σ H Q) : tSimO K en W a σ H fun x H1 => rP K p [x] H1 Q :=
  tSimO_mono (os_cons (prim_as q)) fun v H' q => os_nil q
theorem prim2 {p : P} {a b : C} {Q : VK} (q : tSim K en W (.prim p (.cons a (.cons b .nil))) σ H Q) : tSimO K en W a σ H fun x H1 => tSimO K en W b σ H1 fun y H2 => rP K p [x, y] H2 Q :=
  tSimO_mono (os_cons (prim_as q)) fun v H' q => tSimO_mono (os_cons q) fun w H2 q => os_nil q
theorem prim3 {p : P} {a b c : C} {Q : VK} (q : tSim K en W (.prim p (.cons a (.cons b (.cons c .nil)))) σ H Q) : tSimO K en W a σ H fun x H1 => tSimO K en W b σ H1 fun y H2 => tSimO K en W c σ H2 fun z H3 => rP K p [x, y, z] H3 Q :=
  tSimO_mono (os_cons (prim_as q)) fun v H' q => tSimO_mono (os_cons q) fun w H2 q => tSimO_mono (os_cons q) fun z H3 q => os_nil q
theorem sim_bin {op : Operator} {p : P} {a b : C} {x y : Expr} (ho : OpR X (binaryOp op) (rP2 X.K p)) (ha : PE X x (tSimO X.K en W a)) (hb : PE X y (tSimO X.K en W b)) : PE X (.BinOp x op y pos) (tSim X.K en W (.prim p (.cons a (.cons b .nil)))) :=
  (pe_op ho ha hb).impD fun σ H Q q => prim2 q
theorem sim_un {op : UnaryOp} {p : P} {a : C} {x : Expr} (ho : UnR X (unaryOp op) (rP1 X.K p)) (ha : PE X x (tSimO X.K en W a)) : PE X (.UnaryOp op x pos) (tSim X.K en W (.prim p (.cons a .nil))) :=
  (pe_un ho ha).impD fun σ H Q q => prim1 q
theorem sim_cmp {op : CmpOp} {p : P} {a b : C} {x y : Expr} (ho : OpR X (compareOp op) (rP2 X.K p)) (ha : PE X x (tSimO X.K en W a)) (hb : PE X y (tSimO X.K en W b)) (hm : behindInMarks op y = false) : PE X (.Compare x [op] [y] pos) (tSim X.K en W (.prim p (.cons a (.cons b .nil)))) :=
  (pe_cmpR ho ha hb hm).impD fun σ H Q q => prim2 q
theorem simt_cmp {op : CmpOp} {p : P} {a b : C} {x y : Expr} (ho : OpR X (compareOp op) (rP2 X.K p)) (ha : PE X x (tSimO X.K en W a)) (hb : PE X y (tSimO X.K en W b)) (hm : behindInMarks op y = false) : PT X (.Compare x [op] [y] pos) (tSimT X.K en W (.prim p (.cons a (.cons b .nil)))) :=
  (pt_cmpR ho ha hb hm).impD fun σ H Q q => prim2 (Q := fun v H' => ∃ k, v = .bl k ∧ Q k H') (by
    obtain ⟨g, s, r, q⟩ := q
    refine ⟨g, s, r, post_imp q fun d s' g' H' e1 r' k q v rep => ?_⟩
    obtain ⟨b, eb, q⟩ := q
    rw [eb] at rep
    exact ⟨b, rep.bl_, q⟩)
theorem sim_ix {a b : C} {x y : Expr} (ha : PE X x (tSimO X.K en W a)) (hb : PE X y (tSimO X.K en W b)) (hs : PlainIx y) : PE X (.Subscript x y pos) (tSim X.K en W (.prim .ix (.cons a (.cons b .nil)))) :=
  (pe_ix p_ix ha hb hs).impD fun σ H Q q => prim2 q
theorem sim_b1 {f : String} {p : P} {cs : Cs} {x : Str} {np : Pos} {y : Expr} {es : List Expr} (hr : CallR X (.builtin f) (rP X.K p)) (hg : Gl X x) (hm : X.mg x = none) (hv : bootBuiltins x = some (.builtin f)) (hn : x ≠ "__name__") (hd : (x == ("__debug__" : Str)) = false)
    (ha : PA X (y :: es) (tSimOs X.K en W cs)) (he : starEach (y :: es) X.env = (false, eval y X.env) :: starEach es X.env) (hpl : (backTo pos (starEach es X.env)).any (·.1) = false) : PE X (.Call (.Name x np) (y :: es) [] pos) (tSim X.K en W (.prim p cs)) :=
  (pe_callB hr hg hm hv ha hn hd he hpl).impD fun σ H Q q => prim_as q
theorem sim_t1 {f : String} {p : P} {cs : Cs} {x : Str} {np : Pos} {y : Expr} {es : List Expr} (hr : CallR X (.type f) (rP X.K p)) (hg : Gl X x) (hm : X.mg x = none) (hv : bootBuiltins x = some (.type f)) (hn : x ≠ "__name__") (hd : (x == ("__debug__" : Str)) = false)
    (ha : PA X (y :: es) (tSimOs X.K en W cs)) (he : starEach (y :: es) X.env = (false, eval y X.env) :: starEach es X.env) (hpl : (backTo pos (starEach es X.env)).any (·.1) = false) : PE X (.Call (.Name x np) (y :: es) [] pos) (tSim X.K en W (.prim p cs)) :=
  (pe_callTy hr hg hm hv ha hn hd he hpl).impD fun σ H Q q => prim_as q
/-- isinstance(y, T) -/
theorem sim_isi {t : Ty} {a : C} {np tp : Pos} {y : Expr} {x z : Str} (hx : x = "isinstance") (hz : z = Str.ofString t.name) (hg : Gl X x) (hm : X.mg x = none) (hgT : Gl X z) (hmT : X.mg z = none) (ha : PE X y (tSimO X.K en W a))
    (he : ∀ es, starEach (y :: es) X.env = (false, eval y X.env) :: starEach es X.env) : PE X (.Call (.Name x np) [y, .Name z tp] [] pos) (tSim X.K en W (.prim (.isi t) (.cons a .nil))) := by
  subst hx hz
  have hT : PE X (.Name (Str.ofString t.name) tp) (tC (.ty t.name)) := by
    cases t
    · exact pe_bltn hgT hmT (by decide +kernel : bootBuiltins "int" = some (.type "int")) rfl (by decide) (by decide)
    · exact pe_bltn hgT hmT (by decide +kernel : bootBuiltins "bool" = some (.type "bool")) rfl (by decide) (by decide)
    · exact pe_bltn hgT hmT (by decide +kernel : bootBuiltins "str" = some (.type "str")) rfl (by decide) (by decide)
    · exact pe_bltn hgT hmT (by decide +kernel : bootBuiltins "tuple" = some (.type "tuple")) rfl (by decide) (by decide)
    · exact pe_bltn hgT hmT (by decide +kernel : bootBuiltins "list" = some (.type "list")) rfl (by decide) (by decide)
    · exact pe_bltn hgT hmT (by decide +kernel : bootBuiltins "dict" = some (.type "dict")) rfl (by decide) (by decide)
  have hargs : PA X [y, .Name (Str.ofString t.name) tp] (tCons (tSimO X.K en W a) (tCons (tC (.ty t.name)) tNil)) := pa_cons ha (pa_cons hT pa_nil) (he _)
  refine (pe_callB (p_isi t) hg hm (by decide +kernel) hargs (by decide) (by decide) (he _) rfl).impD fun σ H Q q => ?_
  exact tSimO_mono (prim1 q) fun v H' q => ⟨v, rfl, q⟩
/-! ### slices -/
def tSimP (K : PySem.W.Frag) (en : Ent) (W : WX) (cs : Cs) : TO := fun σ H Q => ∃ g s, SR K en g s σ H ∧
  post K en W σ (Own s.sl σ) g H (evp cs s) fun l s' g' H' => Q l H'
theorem simp_nil : PO X none (tSimP X.K en W .nil) := ⟨fun pins s σ H Q I q => po_none.run pins s σ H Q I (by
  obtain ⟨g, s, r, q⟩ := q
  exact q g H r Keep.refl)⟩
theorem simp_one {c : C} {e : Expr} (h : PE X e (tSim X.K en W c)) : PO X (some e) (tSimP X.K en W (.cons c .nil)) := ⟨fun pins s σ H Q I q => (po_some h).run pins s σ H Q I (by
  obtain ⟨g, s, r, q⟩ := q
  have q : post X.K en W σ (Own s.sl σ) g H ((ev c s).bind fun d s => match d.1 with
    | .int i => Out.ok (some i) s
    | _ => Out.stuck) _ := q
  refine ⟨g, s, r, post_imp (post_bind q) fun d s' g' H' e1 r' k q v rep => ?_⟩
  obtain ⟨d, o⟩ := d
  cases d with
  | int i => exact ⟨i, rep.int_, q g' H' r' Keep.refl⟩
  | non => exact q.elim
  | bl i => exact q.elim
  | str z => exact q.elim
  | tup xs => exact q.elim
  | lst xs => exact q.elim
  | dct ks vs => exact q.elim
  | ref l => exact q.elim
  | scr ns => exact q.elim)⟩
theorem sim_slc {a : C} {lo hi : Cs} {x : Expr} {l h : Option Expr} {p2 : Pos} (ha : PE X x (tSimO X.K en W a)) (hl : PO X l (tSimP X.K en W lo)) (hh : PO X h (tSimP X.K en W hi)) : PE X (.Subscript x (.Slice l h none p2) pos) (tSim X.K en W (.slc a lo hi)) :=
  (pe_slice p_sl ha hl hh).impD fun σ H Q q => by
    obtain ⟨g, s, r, q⟩ := q
    have q : post X.K en W σ (Own s.sl σ) g H ((opdOf a (ev a) s).bind fun o s => (evp lo s).bind fun l s => (evp hi s).bind fun h s => match o.rd s with
      | some d => (match cutP d l h with
        | some r => Out.ok r s
        | none => Out.stuck)
      | none => Out.stuck) _ := q
    refine ⟨g, s, r, post_imp (post_bind q) fun o s' g' H' e1 r' k q v rep => ?_⟩
    refine ⟨g', s', r', post_imp (post_bind q) fun l s2 g2 H2 e2 r2 k2 q => ?_⟩
    refine ⟨g2, s2, r2, post_imp (post_bind q) fun h s3 g3 H3 e3 r3 k3 q => ?_⟩
    split at q
    · rename_i d hd
      split at q
      · rename_i rr hc
        obtain ⟨d', o'⟩ := rr
        have rp : OpdRep X.K g3 H3 σ o v := (rep.keep k2 r'.apart).keep k3 r2.apart
        refine ⟨g3, Own s3.sl σ, d, d', o', r3.apart, rd_of r3 rp hd, hc, fun w H4 gr nr => ?_⟩
        have r4 := r3.same gr
        have k4 : Keep (Own s3.sl σ) g3 H3 (Own s3.sl σ) g3 H4 := Keep.same gr
        refine q g3 H4 r4 k4 w ?_
        cases o' with
        | false => exact nr
        | true =>
          obtain ⟨xs, b, ws, e1, e2, e3, e4, z, t⟩ := nr
          exact ⟨xs, b, ws, e1, e2, e4, z, t, r3.notF e3, r3.notM e3, r3.notO e3, none_back k (none_back k2 (none_back k3 e3))⟩
      · exact q.elim
    · exact q.elim
/-! ### a < b < c -/
theorem chain_as {p q : P} {a b c : C} {Q : VK} (h : tSim K en W (.chain p q a b c) σ H Q) : tChain (rP2 K p) (rP2 K q) (tSimO K en W a) (tSimO K en W b) (tSimO K en W c) σ H Q := by
  obtain ⟨g, s, r, h⟩ := h
  have h : post K en W σ (Own s.sl σ) g H ((opdOf a (ev a) s).bind fun oa s => (opdOf b (ev b) s).bind fun ob s => match rdAll s [oa, ob] with
    | some [x, .int y] => (match p.app [x, .int y] with
      | some (.bl true, _) => (opdOf c (ev c) s).bind fun oc s => (match rdAll s [oc] with
        | some [z] => (match q.app [.int y, z] with
          | some r => Out.ok r s
          | none => Out.stuck)
        | _ => Out.stuck)
      | some (.bl false, _) => Out.ok (D.bl false, false) s
      | _ => Out.stuck)
    | _ => Out.stuck) _ := h
  refine ⟨g, s, r, post_imp (post_bind h) fun oa s1 g1 H1 e1 r1 k1 h v rv => ?_⟩
  refine ⟨g1, s1, r1, post_imp (post_bind h) fun ob s2 g2 H2 e2 r2 k2 h w rw' => ?_⟩
  have rv2 := rv.keep k2 r1.apart
  have k02 := k1.trans k2
  split at h
  · rename_i x y hd
    have bs := rds_of r2 (.cons rv2 (.cons rw' .nil)) hd
    have ew : w = .int y := by
      obtain ⟨_, w', e, _, b⟩ := bs.two
      obtain ⟨_, e2⟩ := list2 e
      rw [e2]
      exact b.int_
    split at h
    · rename_i fl hp
      refine ⟨g2, Own s2.sl σ, _, _, _, r2.apart, bs, hp, fun u H3 gr nr => ?_⟩
      have eu : u = .bl true := by
        cases fl with
        | false => cases nr; rfl
        | true => obtain ⟨_, _, _, e, _⟩ := nr; cases e
      refine ⟨true, eu, ?_⟩
      rw [if_pos rfl]
      have r3 := r2.same gr
      have k3 : Keep (Own s2.sl σ) g2 H2 (Own s2.sl σ) g2 H3 := Keep.same gr
      refine ⟨g2, s2, r3, post_imp (post_bind (post_shift k3 h)) fun oc s4 g4 H4 e4 r4 k4 h z rz => ?_⟩
      split at h
      · rename_i zd hz
        have bz := rds_of r4 (.cons rz .nil) hz
        obtain ⟨z', ez, bz⟩ := bz.one
        have ez := list1 ez
        subst ez
        split at h
        · rename_i rr hq
          obtain ⟨d, o⟩ := rr
          refine ⟨g4, Own s4.sl σ, [.int y, zd], d, o, r4.apart, .cons (by rw [ew]; exact (Rep.int y : Rep K g4 H4 (.int y) (.int y))) (.cons bz .nil), hq, fun u H5 gr nr => ?_⟩
          have r5 := r4.same gr
          refine h g4 H5 r5 (Keep.same gr) u ?_
          cases o with
          | false => exact nr
          | true =>
            obtain ⟨xs, b, ws, e1, e2, e3, e4, zz, t⟩ := nr
            exact ⟨xs, b, ws, e1, e2, e4, zz, t, r4.notF e3, r4.notM e3, r4.notO e3, none_back k02 (none_back k3 (none_back k4 e3))⟩
        · exact h.elim
      · exact h.elim
    · rename_i fl hp
      refine ⟨g2, Own s2.sl σ, _, _, _, r2.apart, bs, hp, fun u H3 gr nr => ?_⟩
      have eu : u = .bl false := by
        cases fl with
        | false => cases nr; rfl
        | true => obtain ⟨_, _, _, e, _⟩ := nr; cases e
      refine ⟨false, eu, ?_⟩
      rw [if_neg Bool.false_ne_true]
      exact h g2 H3 (r2.same gr) (Keep.same gr) (.bl false) (Rep.bl false)
    · exact h.elim
  · exact h.elim
theorem sim_chain {op op' : CmpOp} {p q : P} {a b c : C} {x y z : Expr} (ho : OpR X (compareOp op) (rP2 X.K p)) (ho' : OpR X (compareOp op') (rP2 X.K q)) (ha : PE X x (tSimO X.K en W a)) (hb : PE X y (tSimO X.K en W b)) (hc : PE X z (tSimO X.K en W c))
    (hm : lastMarks [op, op'] [y, z] = false) : PE X (.Compare x [op, op'] [y, z] pos) (tSim X.K en W (.chain p q a b c)) := (pe_chain ho ho' ha hb hc hm).impD fun σ H Q h => chain_as h
theorem simt_chain {op op' : CmpOp} {p q : P} {a b c : C} {x y z : Expr} (ho : OpR X (compareOp op) (rP2 X.K p)) (ho' : OpR X (compareOp op') (rP2 X.K q)) (ha : PE X x (tSimO X.K en W a)) (hb : PE X y (tSimO X.K en W b)) (hc : PE X z (tSimO X.K en W c))
    (hm : lastMarks [op, op'] [y, z] = false) : PT X (.Compare x [op, op'] [y, z] pos) (tSimT X.K en W (.chain p q a b c)) := (pt_chain ho ho' ha hb hc hm).impD fun σ H Q h => chain_as (Q := fun v H' => ∃ k, v = .bl k ∧ Q k H') (by
    obtain ⟨g, s, r, q⟩ := h
    refine ⟨g, s, r, post_imp q fun d s' g' H' e1 r' k q v rep => ?_⟩
    obtain ⟨b, eb, q⟩ := q
    rw [eb] at rep
    exact ⟨b, rep.bl_, q⟩)
/-! ### calls of defs -/
theorem call_as {x : Str} {F : FnD} {cs : Cs} {Q : VK} (h : tSim K en W (.fn x F cs) σ H Q) : tSims K en W cs σ H fun vs H1 => spD K en.xc F vs H1 Q fun cls dd H' => W cls dd σ H' := by
  obtain ⟨g, s, r, h⟩ := h
  have h : post K en W σ (Own s.sl σ) g H ((evs cs s).bind fun ds s => match F ds s.h with
    | .ok a h => Out.ok a { s with h := h }
    | .exc x h => Out.exc x { s with h := h }
    | .stuck => Out.stuck) _ := h
  refine ⟨g, s, r, post_imp (post_bind h) fun ds s1 g1 H1 e1 r1 k1 h vs reps => ?_⟩
  refine ⟨g1, s1.h, ds, r1.cells, reps, ?_⟩
  cases hF : F ds s1.h with
  | ok a h' =>
    rw [hF] at h
    intro v g' H' kp cc rr
    obtain ⟨r2, k2⟩ := r1.call kp cc
    refine h g' H' r2 k2 v ?_
    obtain ⟨d, o⟩ := a
    cases o with
    | false => exact rr
    | true =>
      obtain ⟨xs, b, ws, e1, e2, e3, z, t, f, m, _, h0⟩ := rr
      refine ⟨xs, b, ws, e1, e2, e3, z, t, f, m, fun q => ?_, none_back k1 h0⟩
      obtain ⟨us, e⟩ := r1.own q
      rw [h0] at e; cases e
  | exc x h' =>
    rw [hF] at h
    intro cls dd g' H' kp cc ex
    obtain ⟨r2, k2⟩ := r1.call kp cc
    exact h cls dd g' H' r2 k2 ex
  | stuck => rw [hF] at h; exact h
theorem sim_fn {x : Str} {F : FnD} {cs : Cs} {np : Pos} {y : Expr} {es : List Expr} (c : Callee X en.xc x F) (hgd : X.A.guards = some []) (tk : Takes X W) (hg : Gl X x) (hd : (x == ("__debug__" : Str)) = false) (ha : PA X (y :: es) (tSims X.K en W cs))
    (he : starEach (y :: es) X.env = (false, eval y X.env) :: starEach es X.env) (hpl : (backTo pos (starEach es X.env)).any (·.1) = false) : PE X (.Call (.Name x np) (y :: es) [] pos) (tSim X.K en W (.fn x F cs)) := by
  refine ⟨fun pins s σ H Q I h => ?_⟩
  obtain ⟨f, fd, ps, k, G, hr, hm, hk, hb⟩ := id c
  refine wpAny_Call_Name_kw (ld_glob I hg hm ?_ hd)
  refine PySem.W.callWith_K (h₀ := X.base) I.ok.mod.kin hk (thn (ha.run pos pins s σ H _ I (call_as h)) fun us s1 ⟨vs, H1, I1, r, q⟩ => ⟨I1.kIn, ?_⟩) he hpl
  exact run_callee c hgd tk I1 r q hm
mutual
/-- a value without lists doesn't rest on those that stay -/
theorem Rep.nl {K : PySem.W.Frag} {g g2 : G} {H : Hp} (m : g2.ms = g.ms) : ∀ {d : D} {v : V}, Rep K g H d v → d.nl = true → Rep K g2 H d v
  | _, _, .non, _ => .non
  | _, _, .bl b, _ => .bl b
  | _, _, .int i, _ => .int i
  | _, _, .str s, _ => .str s
  | _, _, .tup h z r, q => .tup h z (Reps.nl m r (by simpa only [D.nl] using q))
  | _, _, .lst _ _ _ _, q => by simp [D.nl] at q
  | _, _, .dct _ _ _ _, q => by simp [D.nl] at q
  | _, _, .ref h, _ => .ref (by rw [m]; exact h)
  | _, _, .scr _, q => by simp [D.nl] at q
theorem Reps.nl {K : PySem.W.Frag} {g g2 : G} {H : Hp} (m : g2.ms = g.ms) : ∀ {ds : List D} {vs : List V}, Reps K g H ds vs → D.nls ds = true → Reps K g2 H ds vs
  | _, _, .nil, _ => .nil
  | _, _, .cons r t, q => by
    simp only [D.nls, Bool.and_eq_true] at q
    exact .cons (Rep.nl m r q.1) (Reps.nl m t q.2)
end
theorem callB_as {x : Str} {F : FnD} {cs : Cs} {Q : VK} (h : tSim K en W (.fnB x F cs) σ H Q) : tSimOs K en W cs σ H fun vs H1 => spD K en.xc F vs H1 Q fun cls dd H' => W cls dd σ H' := by
  obtain ⟨g, s, r, h⟩ := h
  have h : post K en W σ (Own s.sl σ) g H ((evo cs s).bind fun os s => match rawAll s os with
    | some ds => (match F ds s.h with
      | .ok a h => if (a.1.nl && h.all CO.nl) = true then Out.ok (a.1, false) { s with h := h } else Out.stuck
      | _ => Out.stuck)
    | none => Out.stuck) _ := h
  refine ⟨g, s, r, post_imp (post_bind h) fun os s1 g1 H1 e1 r1 k1 h vs reps => ?_⟩
  cases hd : rawAll s1 os with
  | none => rw [hd] at h; exact h.elim
  | some ds =>
    rw [hd] at h
    let gp : G := { g1 with F := fun b => g1.F b ∨ Own s1.sl σ b }
    have fm : ∀ b, g1.F b → gp.F b := fun b f => .inl f
    have cp : Cells K gp s1.h H1 := by
      refine ⟨r1.cells.len, r1.cells.nd, fun b m f => ?_, fun b f => ?_, fun l b co e1 e2 => ?_⟩
      · rcases f with f | f
        · exact r1.cells.nF b m f
        · exact (r1.ownF b f).2 m
      · rcases f with f | f
        · exact r1.cells.tF b f
        · obtain ⟨vs, e⟩ := r1.own f
          exact ⟨_, e, rfl⟩
      · have q := r1.cells.at_ l b co e1 e2
        cases co with
        | lst us =>
          obtain ⟨ws, e5, z, t⟩ := q
          exact ⟨ws, e5, z, t.more fm rfl⟩
        | dct kvs => exact q.elim
        | ins c fs => exact q.elim
    have rp : ∀ {os : List Opd} {vs : List V} {ds : List D}, OpdReps K g1 H1 σ os vs → rawAll s1 os = some ds → Reps K gp H1 ds vs := by
      intro os vs ds q
      induction q generalizing ds with
      | nil => intro h; cases h; exact .nil
      | cons q t ih =>
        rename_i o v os vs
        intro h
        unfold rawAll at h
        split at h
        · rename_i d ds' h1 h2
          cases h
          refine .cons ?_ (ih h2)
          cases o with
          | d d1 =>
            cases h1
            exact Rep.more fm rfl q
          | sl i =>
            have hv : s1.sl.val i = some d := h1
            unfold Slots.val at hv
            cases hs : s1.sl[i]? with
            | none => rw [hs] at hv; cases hv
            | some x =>
              cases x with
              | none => rw [hs] at hv; cases hv
              | some p =>
                obtain ⟨d', fl⟩ := p
                rw [hs] at hv
                cases hv
                obtain ⟨v', e1, sr⟩ := r1.slot i d fl hs
                have e2 : σ[i]? = some (some v) := q
                rw [e2] at e1
                cases e1
                cases fl with
                | false => exact Rep.more fm rfl sr
                | true =>
                  obtain ⟨xs, a, ws, rfl, rfl, e3, z, t⟩ := sr
                  exact .lst e3 (.inr ⟨i, _, hs, e2⟩) z (t.more fm rfl)
        · cases h
    refine ⟨gp, s1.h, ds, cp, rp reps hd, ?_⟩
    have h : post K en W σ (Own s1.sl σ) g1 H1 (match F ds s1.h with
      | .ok a h => if (a.1.nl && h.all CO.nl) = true then Out.ok (a.1, false) { s1 with h := h } else Out.stuck
      | _ => Out.stuck) _ := h
    cases hF : F ds s1.h with
    | ok a h' =>
      rw [hF] at h
      have h : post K en W σ (Own s1.sl σ) g1 H1 (if (a.1.nl && h'.all CO.nl) = true then Out.ok (a.1, false) { s1 with h := h' } else Out.stuck) _ := h
      split at h
      · rename_i hc
        rw [Bool.and_eq_true] at hc
        obtain ⟨c1, c2⟩ := hc
        intro v g' H' kp cc rr
        let g2 : G := { g' with F := fun b => g'.F b ∧ ¬ Own s1.sl σ b }
        have kp2 : Keep none_ g1 H1 none_ g2 H' := ⟨kp.ms, fun b f => ⟨kp.fm b (.inl f), fun z => (r1.ownF b z).1 f⟩, fun b f => by
          rcases kp.ff b f.1 with q | q | q
          · rcases q with q | q
            · exact .inl q
            · exact absurd q f.2
          · exact .inr (.inl q)
          · exact .inr (.inr q), kp.st, kp.ow, kp.th⟩
        have cc2 : Cells K g2 h' H' := by
          refine ⟨cc.len, cc.nd, fun b m f => cc.nF b m f.1, fun b f => cc.tF b f.1, fun l b co e1 e2 => ?_⟩
          have q := cc.at_ l b co e1 e2
          have n := List.all_eq_true.mp c2 co (List.mem_of_getElem? e2)
          cases co with
          | lst us =>
            obtain ⟨ws, e5, z, t⟩ := q
            exact ⟨ws, e5, z, Reps.nl (g := g') (g2 := g2) rfl t n⟩
          | dct kvs => exact q.elim
          | ins c fs => exact q.elim
        obtain ⟨r2, k2⟩ := r1.call kp2 cc2
        refine h g2 H' r2 k2 v ?_
        obtain ⟨d, o⟩ := a
        cases o with
        | false => exact Rep.nl (g := g') (g2 := g2) rfl rr c1
        | true =>
          obtain ⟨xs, b, ws, e1, _⟩ := rr
          have e1 : d = .lst xs := e1
          subst e1
          simp [D.nl] at c1
      · exact h.elim
    | exc x h' => rw [hF] at h; exact h.elim
    | stuck => rw [hF] at h; exact h.elim
theorem sim_fnB {x : Str} {F : FnD} {cs : Cs} {np : Pos} {y : Expr} {es : List Expr} (c : Callee X en.xc x F) (hgd : X.A.guards = some []) (tk : Takes X W) (hg : Gl X x) (hd : (x == ("__debug__" : Str)) = false) (ha : PA X (y :: es) (tSimOs X.K en W cs))
    (he : starEach (y :: es) X.env = (false, eval y X.env) :: starEach es X.env) (hpl : (backTo pos (starEach es X.env)).any (·.1) = false) : PE X (.Call (.Name x np) (y :: es) [] pos) (tSim X.K en W (.fnB x F cs)) := by
  refine ⟨fun pins s σ H Q I h => ?_⟩
  obtain ⟨f, fd, ps, k, G, hr, hm, hk, hb⟩ := id c
  refine wpAny_Call_Name_kw (ld_glob I hg hm ?_ hd)
  refine PySem.W.callWith_K (h₀ := X.base) I.ok.mod.kin hk (thn (ha.run pos pins s σ H _ I (callB_as h)) fun us s1 ⟨vs, H1, I1, r, q⟩ => ⟨I1.kIn, ?_⟩) he hpl
  exact run_callee c hgd tk I1 r q hm
theorem sim_fn0 {x : Str} {F : FnD} {np : Pos} (c : Callee X en.xc x F) (hgd : X.A.guards = some []) (tk : Takes X W) (hg : Gl X x) (hd : (x == ("__debug__" : Str)) = false) : PE X (.Call (.Name x np) [] [] pos) (tSim X.K en W (.fn x F .nil)) := by
  refine ⟨fun pins s σ H Q I h => ?_⟩
  obtain ⟨f, fd, ps, k, G, hr, hm, hk, hb⟩ := id c
  refine wpAny_Call_Name_kw (ld_glob I hg hm ?_ hd)
  refine PySem.W.callWith_K0 I.kIn hk ?_
  have h2 := call_as h
  obtain ⟨g, s', r, h2⟩ := h2
  have h3 := h2 g H r Keep.refl [] .nil
  exact run_callee (us := []) c hgd tk I .nil h3 hm
end
end Dd

/-! Dd8b: displays of dicts that stay. -/
namespace Dd
open L2 PyProof.Rows PySem.Spec PySem

section
variable {K : PySem.W.Frag} {e : Ent} {g : G} {s : Sta} {σ : L2.St} {H : Hp}
/-- an object that is nobody's is from now on anybody's -/
theorem SR.addF (r : SR K e g s σ H) {a : Addr} {o : HO} (e2 : H a = some o) (m : mutO o = true) (h0 : e.H0 a = none) (nm : a ∉ g.ms) (no : ¬ Own s.sl σ a) :
    SR K e { g with F := fun b => g.F b ∨ b = a } s σ H ∧ ∀ {O : Addr → Prop} {g1 : G} {H1 : Hp}, H1 a = none → Keep O g1 H1 (Own s.sl σ) g H → Keep O g1 H1 (Own s.sl σ) { g with F := fun b => g.F b ∨ b = a } H := by
  let g' : G := { g with F := fun b => g.F b ∨ b = a }
  have up : ∀ {O : Addr → Prop} {g1 : G} {H1 : Hp}, H1 a = none → Keep O g1 H1 (Own s.sl σ) g H → Keep O g1 H1 (Own s.sl σ) g' H := fun {O g1 H1} hz l =>
    ⟨l.ms, fun b f => .inl (l.fm b f), fun b f => f.elim (l.ff b) fun z => .inr (.inr (by rw [z]; exact hz)), l.st, l.ow, l.th⟩
  have fm : ∀ b, g.F b → g'.F b := fun b f => .inl f
  refine ⟨⟨up h0 r.keep, r.ln, fun i d o h => ?_, r.inj, ⟨r.cells.len, r.cells.nd, fun b m f => ?_, fun b f => ?_, fun l b co e1 e2 => ?_⟩, fun b h => ⟨fun f => ?_, (r.ownF b h).2⟩⟩, up⟩
  · obtain ⟨v, e1, q⟩ := r.slot i d o h
    refine ⟨v, e1, ?_⟩
    cases o with
    | false => exact Rep.more fm rfl q
    | true =>
      obtain ⟨us, b, ws, e4, e5, e6, z, t⟩ := q
      exact ⟨us, b, ws, e4, e5, e6, z, t.more fm rfl⟩
  · rcases f with f | f
    · exact r.cells.nF b m f
    · exact nm (f ▸ m)
  · rcases f with f | f
    · exact r.cells.tF b f
    · exact ⟨_, by rw [f]; exact e2, m⟩
  · have q := r.cells.at_ l b co e1 e2
    cases co with
    | lst us =>
      obtain ⟨ws, e5, z, t⟩ := q
      exact ⟨ws, e5, z, t.more fm rfl⟩
    | dct kvs => exact q.elim
    | ins c fs => exact q.elim
  · rcases f with f | f
    · exact (r.ownF b h).1 f
    · exact no (f ▸ h)
/-- a new dict that stays -/
theorem SR.newD (r : SR K e g s σ H) {p : Addr} (hp : H p = none) {kvs : List (Key × V)} {xs : List D} (t : ∀ g H, Reps K g H xs (kvs.map (·.2))) :
    ∃ g', SR K e g' s σ (upd H p (.dK kvs)) ∧ Keep (Own s.sl σ) g H (Own s.sl σ) g' (upd H p (.dK kvs)) ∧ Rep K g' (upd H p (.dK kvs)) (.dct (kvs.map fun kv => keyD kv.1) xs) (.ref p) := by
  have hs := same_upd (o := HO.dK kvs) hp
  have r1 := r.same hs
  obtain ⟨r2, up⟩ := r1.addF (a := p) (o := .dK kvs) upd_same rfl (r.fresh0 hp) (r.notM hp) (r.notO hp)
  exact ⟨_, r2, up hp (Keep.same hs), .dct upd_same (.inr rfl) rfl (t _ _)⟩
end
section
variable {X : Cx} {en : Ent} {W : WX} {pos : Pos}
theorem sim_emp : PE X (.Dict [] [] pos) (tSim X.K en W .emp) := pe_dnewK.impD fun σ H Q q p hp => by
  obtain ⟨g, s, r, q⟩ := q
  obtain ⟨g', r', k, rep⟩ := r.newD hp (kvs := []) (xs := []) fun _ _ => .nil
  exact q g' _ r' k (.ref p) rep
def keyOf : D → Option Key
  | .int i => some (.inl i)
  | .str x => some (.inr x)
  | _ => none
def flatV : D → Option V
  | .non => some .non
  | .bl b => some (.bl b)
  | .int i => some (.int i)
  | .str x => some (.str x)
  | _ => none
theorem flatV_rep {K : PySem.W.Frag} {d : D} {v : V} (h : flatV d = some v) (g : G) (H : Hp) : Rep K g H d v := by
  cases d <;> cases h
  · exact .non
  · exact .bl _
  · exact .int _
  · exact .str _
/-- {k: v} of constants -/
theorem sim_dct1 {k v : Expr} {dk dv : D} {y : Key} {w : V} (hk : keyOf dk = some y) (hw : flatV dv = some w) (pk : PE X k (tC (kV y))) (pv : PE X v (tC w)) : PE X (.Dict [some k] [v] pos) (tSim X.K en W (.dct1 (.lit dk) (.lit dv))) :=
  (pe_disp (pps_cons pk pv pps_nil) rfl rfl (List.cons_ne_nil _ _) (show 1 ≤ 15 by decide)).impD fun σ H Q q p hp => by
    obtain ⟨g, s, r, q⟩ := q
    refine ⟨upd_same, [(y, w)], rfl, (show 1 ≤ 15 by decide), ?_⟩
    have e : upd (upd H p (.dK [])) p (.dK (mergeK [] [(y, w)])) = upd H p (.dK [(y, w)]) := by rw [upd_upd]; rfl
    rw [e]
    obtain ⟨g', r', kp, rep⟩ := r.newD hp (kvs := [(y, w)]) (xs := [dv]) fun g H => .cons (flatV_rep hw g H) .nil
    have ek : keyD y = dk := by
      cases dk <;> cases hk <;> rfl
    have rep : Rep X.K g' (upd H p (.dK [(y, w)])) (.dct [dk] [dv]) (.ref p) := by
      rw [← ek]
      exact rep
    have hq : ev (.dct1 (.lit dk) (.lit dv)) s = .ok (.dct [dk] [dv], false) s := by
      cases dk <;> cases hk <;> rfl
    rw [hq] at q
    exact q g' _ r' kp (.ref p) rep
end
end Dd

/-! Dd8d: sorted of a tuple; max(x, default=d), min(x, default=d). -/
namespace Dd
open PySem PySem.Spec PyProof.Rows L2 Srt SrtO
section
variable {prog : Program} {w : World} {A : Around} {E : Value → Shared → Prop} {s : Shared}
theorem collect_tupD {l : Addr} {vs : List Value} {Q : List Value → Shared → Prop} (hl : s.heap.IsTuple l vs.toArray)
    (h : Q vs { s with heap := (s.heap.push (seqObj "list" #[] 0)).update s.heap.objs.size (Obj.mapSeq (· ++ vs.toArray)) }) (hsz : vs.length ≤ sizeLine) :
    wpAny (model prog w) A (collect (.ref l)) Q E s := by
  obtain ⟨o, ho, hc, n, hd⟩ := id hl
  unfold collect
  refine wpAny_bind (wpAny_runValue (codeAny_builtin entry_proto_collect' ?_))
  show wpAny _ _ (do again (.builtin "list.__iadd__" ⟨[← newList [], .ref l], []⟩)) _ _ s
  refine wpAny_bind (wpAny_newList (wpAny_pure ⟨Code.quiet_builtin _ (by decide +kernel), codeAny_builtin entry_list_iadd' ?_⟩))
  show wpAny _ _ (Builtin.List.listExtendWith (.ref s.heap.objs.size) (.ref l) (.ref s.heap.objs.size)) _ _ { s with heap := s.heap.push (seqObj "list" #[] 0) }
  unfold Builtin.List.listExtendWith
  have ho' : (s.heap.push (seqObj "list" #[] 0)).get? l = some o := Heap.get?_push_of_some _ ho
  refine wpAny_bind (wpAny_typeOf (T := "tuple") ⟨o, ho', hc⟩ ?_)
  have ht : (Value.type "tuple" == Value.type "tuple") = true := by rfl
  rw [if_pos (by rw [ht]; simp)]
  refine wpAny_bind (listItems_at ho' hd ?_)
  refine wpAny_bind (listItems_at (xs := #[]) (n := 0) (Heap.get?_push_size _ rfl) rfl ?_)
  rw [if_neg (by simp)]
  refine wpAny_bind (listUpdate_at (xs := #[]) (n := 0) (Heap.get?_push_size _ rfl) rfl ?_ (Nat.zero_le _) (by show (#[] ++ vs.toArray).size ≤ sizeLine + 1; simp only [Array.size_append, List.size_toArray, List.length_nil]; omega))
  refine wpAny_pure ?_
  show wpAny (model prog w) A (do
      let o ← load s.heap.objs.size
      match o.data with
      | .seq xs _ => pure xs.toList
      | _ => unsupported "internal:collect") Q E { s with heap := (s.heap.push (seqObj "list" #[] 0)).update s.heap.objs.size (Obj.mapSeq (· ++ vs.toArray)) }
  refine wpAny_bind (wpAny_load (get?_update_seq (Heap.get?_push_size _ rfl) _) ?_)
  show wpAny _ _ (pure ((#[] : Array Value) ++ vs.toArray).toList) Q E _
  rw [show ((#[] : Array Value) ++ vs.toArray).toList = vs by simp]
  exact wpAny_pure h
theorem sorted_ordT {l : Addr} {vs : List Value} {ltv : Value → Value → Bool} {Q : Value → Shared → Prop} (O : Swo ltv) (hl : s.heap.IsTuple l vs.toArray) (hz : vs.length ≤ sizeLine)
    (hS : 2 ≤ vs.length → ∀ (h₁ : Heap) (a : Addr), h₁.get? a = some (seqObj "list" vs.toArray 0) → (∀ b o, s.heap.get? b = some o → b ≠ a ∧ h₁.get? b = some o) → SortableO prog w A.in1.in1 { s with heap := h₁ } a vs ltv)
    (h : ∀ out : List Value, Srtd ltv out → Stb ltv out vs → Q (.ref (s.heap.objs.size + 1)) { s with heap := sortedAll s.heap vs out.toArray }) :
    wpAny (model prog w) A (call (.builtin "sorted") [.ref l]) Q E s := by
  refine Calls.call_function_entry kind_sorted plain_sorted entry_sorted (args_sorted1 _) ?_
  unfold Builtin.«sorted»
  refine wpAny_bind (m := checkCount "sorted" 1 1 _) (wpAny_pure ?_)
  refine wpAny_bind (collect_tupD hl ?_ hz)
  refine wpAny_bind (wpAny_newList ?_ hz)
  have hsz : ((s.heap.push (seqObj "list" #[] 0)).update s.heap.objs.size (Obj.mapSeq (· ++ vs.toArray))).objs.size = s.heap.objs.size + 1 := by
    rw [Heap.size_update, size_push']
  have hoL : (((s.heap.push (seqObj "list" #[] 0)).update s.heap.objs.size (Obj.mapSeq (· ++ vs.toArray))).push (seqObj "list" vs.toArray 0)).get? (s.heap.objs.size + 1) = some (seqObj "list" vs.toArray 0) := by
    rw [← hsz]; exact Heap.get?_push_size _ rfl
  have keep : ∀ b o, s.heap.get? b = some o → b ≠ s.heap.objs.size + 1 ∧ (((s.heap.push (seqObj "list" #[] 0)).update s.heap.objs.size (Obj.mapSeq (· ++ vs.toArray))).push (seqObj "list" vs.toArray 0)).get? b = some o := fun b o q => by
    have hlt : b < s.heap.objs.size := Heap.lt_size q
    refine ⟨Nat.ne_of_lt (Nat.lt_succ_of_lt hlt), Heap.get?_push_of_some _ ?_⟩
    rw [Heap.get?_update_ne _ _ _ _ (Nat.ne_of_lt hlt)]
    exact Heap.get?_push_of_some _ q
  show wpAny _ _ _ _ _ { s with heap := ((s.heap.push (seqObj "list" #[] 0)).update s.heap.objs.size (Obj.mapSeq (· ++ vs.toArray))).push (seqObj "list" vs.toArray 0) }
  rw [hsz]
  refine wpAny_bind (wpAny_holding (wpAny_call_entry slot_list_sort ⟨_, hoL, rfl⟩ entry_list_sort (list_sort_ord O hoL hz (fun h2 => hS h2 _ _ hoL keep) fun out hs hb => ⟨_, rfl, ?_⟩) (args_list_sort _)))
  exact wpAny_pure ⟨_, rfl, h out hs hb⟩
end
def rSortedIT (K : PySem.W.Frag) : List V → Hp → VK → Prop := fun vs H Q => ∃ (a : Addr) (ns : List Int), vs = [V.ref a] ∧ SqT K H a (ns.map V.int) ∧
  ∀ (ns' : List Int) (p : Addr), ns'.Perm ns → ns'.Pairwise (· ≤ ·) → H p = none → Q (.ref p) (upd H p (.lst (ns'.map V.int)))
section
variable {X : Cx} {en : Ent} {W : WX} {pos : Pos}
theorem cr_sortedIT : CallR X (.builtin "sorted") (rSortedIT X.K) := by
  intro pins s σ H vs us Q I r h
  obtain ⟨a, ns, rfl, hs, q⟩ := h
  obtain ⟨its, rv, hl, hz⟩ := I.tuple hs
  rw [Vals.ref1 r]
  have hi := rv.ints
  refine sorted_ordT SrtO.swo_int hl (by rw [← rv.length]; exact hz) (fun h2 h₁ a' _ _ => SrtO.ints_sortable hi h2) fun out h1 h2 => ?_
  obtain ⟨k1, k2, k3⟩ := SrtO.ints_out hi h1 h2
  obtain ⟨ep, he'⟩ := PyProof.Rows.sortedAll_at s.heap its out.toArray
  have hlen : ((out.map SrtO.iv).map V.int).length ≤ sizeLine := by
    rw [List.length_map, k2.length_eq]
    rw [List.length_map] at hz
    exact hz
  exact ⟨.ref _, upd H (s.heap.objs.size + 1) (.lst ((out.map SrtO.iv).map V.int)), I.laid (t' := s.toks) (fun _ _ => PyProof.Rows.sortedAll_old) (Nat.le_succ _) ⟨hlen, out, ep, vals_of_ints k1, he'⟩, rfl, q _ _ k2 k3 (I.hok.fresh (Nat.le_succ _))⟩
end
end Dd

/-! Dd8c: sorted, len(set(..)), list(range(..)). -/
namespace Dd
open L2 PyProof.Rows PySem.Spec PySem

/-! ### there is one sorted list -/
theorem sorted_one {α : Type} {le : α → α → Prop} (anti : ∀ a b, le a b → le b a → a = b) : ∀ {l m : List α}, l.Perm m → l.Pairwise le → m.Pairwise le → l = m
  | [], m, p, _, _ => (List.Perm.eq_nil p.symm).symm
  | x :: l, [], p, _, _ => absurd p.length_eq (by simp)
  | x :: l, y :: m, p, hl, hm => by
    obtain ⟨hx, hl2⟩ := List.pairwise_cons.mp hl
    obtain ⟨hy, hm2⟩ := List.pairwise_cons.mp hm
    have e : x = y := by
      rcases List.mem_cons.mp (p.mem_iff.mp (List.mem_cons_self (a := x) (l := l))) with e | m1
      · exact e
      · rcases List.mem_cons.mp (p.mem_iff.mpr (List.mem_cons_self (a := y) (l := m))) with e | m2
        · exact e.symm
        · exact anti x y (hx y m2) (hy x m1)
    subst e
    rw [sorted_one anti p.cons_inv hl2 hm2]
theorem insI_perm (x : Int) : ∀ l : List Int, (insI x l).Perm (x :: l)
  | [] => .refl _
  | y :: l => by
    unfold insI
    split
    · exact .refl _
    · exact ((insI_perm x l).cons y).trans (.swap x y l)
theorem insI_srt (x : Int) : ∀ l : List Int, l.Pairwise (· ≤ ·) → (insI x l).Pairwise (· ≤ ·)
  | [], _ => List.pairwise_singleton _ _
  | y :: l, h => by
    obtain ⟨h1, h2⟩ := List.pairwise_cons.mp h
    unfold insI
    split
    · rename_i q
      refine List.pairwise_cons.mpr ⟨fun z hz => ?_, h⟩
      rcases List.mem_cons.mp hz with e | hz
      · rw [e]; exact q
      · exact Int.le_trans q (h1 z hz)
    · rename_i q
      refine List.pairwise_cons.mpr ⟨fun z hz => ?_, insI_srt x l h2⟩
      rcases List.mem_cons.mp ((insI_perm x l).mem_iff.mp hz) with e | hz
      · rw [e]; omega
      · exact h1 z hz
theorem sortI_perm : ∀ l : List Int, (sortI l).Perm l
  | [] => .refl _
  | x :: l => (insI_perm x _).trans ((sortI_perm l).cons x)
theorem sortI_srt : ∀ l : List Int, (sortI l).Pairwise (· ≤ ·)
  | [] => .nil
  | x :: l => insI_srt x _ (sortI_srt l)
theorem sortI_one {l m : List Int} (p : m.Perm l) (h : m.Pairwise (· ≤ ·)) : m = sortI l :=
  sorted_one (fun a b => Int.le_antisymm) (p.trans (sortI_perm l).symm) h (sortI_srt l)
theorem leP_iff {p q : Int × Int} : leP p q = true ↔ p.1 < q.1 ∨ (p.1 = q.1 ∧ p.2 ≤ q.2) := by
  unfold leP
  split
  · rename_i e
    rw [decide_eq_true_iff]
    omega
  · rename_i e
    rw [decide_eq_true_iff]
    omega
theorem insP_perm (x : Int × Int) : ∀ l : List (Int × Int), (insP x l).Perm (x :: l)
  | [] => .refl _
  | y :: l => by
    unfold insP
    split
    · exact .refl _
    · exact ((insP_perm x l).cons y).trans (.swap x y l)
theorem insP_srt (x : Int × Int) : ∀ l : List (Int × Int), l.Pairwise (fun p q => leP p q = true) → (insP x l).Pairwise (fun p q => leP p q = true)
  | [], _ => List.pairwise_singleton _ _
  | y :: l, h => by
    obtain ⟨h1, h2⟩ := List.pairwise_cons.mp h
    unfold insP
    split
    · rename_i q
      refine List.pairwise_cons.mpr ⟨fun z hz => ?_, h⟩
      rcases List.mem_cons.mp hz with e | hz
      · rw [e]; exact q
      · have a := leP_iff.mp q
        have b := leP_iff.mp (h1 z hz)
        exact leP_iff.mpr (by omega)
    · rename_i q
      refine List.pairwise_cons.mpr ⟨fun z hz => ?_, insP_srt x l h2⟩
      rcases List.mem_cons.mp ((insP_perm x l).mem_iff.mp hz) with e | hz
      · rw [e]
        have a : ¬ (x.1 < y.1 ∨ (x.1 = y.1 ∧ x.2 ≤ y.2)) := fun z => q (leP_iff.mpr z)
        exact leP_iff.mpr (by omega)
      · exact h1 z hz
theorem sortP_perm : ∀ l : List (Int × Int), (sortP l).Perm l
  | [] => .refl _
  | x :: l => (insP_perm x _).trans ((sortP_perm l).cons x)
theorem sortP_srt : ∀ l : List (Int × Int), (sortP l).Pairwise (fun p q => leP p q = true)
  | [] => .nil
  | x :: l => insP_srt x _ (sortP_srt l)
theorem sortP_one {l m : List (Int × Int)} (p : m.Perm l) (h : m.Pairwise (fun p q => leP p q = true)) : m = sortP l :=
  sorted_one (le := fun p q => leP p q = true) (fun a b h1 h2 => by
    have a1 := leP_iff.mp h1
    have a2 := leP_iff.mp h2
    exact Prod.ext (by omega) (by omega)) (p.trans (sortP_perm l).symm) h (sortP_srt l)
/-! ### rearranged -/
theorem Reps.perm {K : PySem.W.Frag} {g : G} {H : Hp} {vs ws : List V} (p : vs.Perm ws) : ∀ {ds : List D}, Reps K g H ds vs → ∃ es, es.Perm ds ∧ Reps K g H es ws := by
  induction p with
  | nil => exact fun {ds} r => ⟨ds, .refl _, r⟩
  | cons x p ih =>
    intro ds r
    cases r with
    | cons a t =>
      obtain ⟨es, q, r⟩ := ih t
      exact ⟨_ :: es, q.cons _, .cons a r⟩
  | swap x y l =>
    intro ds r
    cases r with
    | cons a t =>
      cases t with
      | cons b t => exact ⟨_, .swap _ _ _, .cons b (.cons a t)⟩
  | trans p q ih1 ih2 =>
    intro ds r
    obtain ⟨es, q1, r1⟩ := ih1 r
    obtain ⟨fs, q2, r2⟩ := ih2 r1
    exact ⟨fs, q2.trans q1, r2⟩
theorem Reps.mem_ {K : PySem.W.Frag} {g : G} {H : Hp} : ∀ {ds : List D} {vs : List V} {v : V}, Reps K g H ds vs → v ∈ vs → ∃ d, d ∈ ds ∧ Rep K g H d v
  | _, _, v, .nil, h => by cases h
  | _, _, v, .cons a t, h => by
    rcases List.mem_cons.mp h with e | h
    · exact ⟨_, List.mem_cons_self, e ▸ a⟩
    · obtain ⟨d, m, r⟩ := t.mem_ h
      exact ⟨d, List.mem_cons_of_mem _ m, r⟩
theorem Reps.memD {K : PySem.W.Frag} {g : G} {H : Hp} : ∀ {ds : List D} {vs : List V} {d : D}, Reps K g H ds vs → d ∈ ds → ∃ v, v ∈ vs ∧ Rep K g H d v
  | _, _, d, .nil, h => by cases h
  | _, _, d, .cons a t, h => by
    rcases List.mem_cons.mp h with e | h
    · exact ⟨_, List.mem_cons_self, e ▸ a⟩
    · obtain ⟨v, m, r⟩ := t.memD h
      exact ⟨v, List.mem_cons_of_mem _ m, r⟩
theorem Reps.pairwise {K : PySem.W.Frag} {g : G} {H : Hp} {R : V → V → Prop} {S : D → D → Prop} : ∀ {ds : List D} {vs : List V}, Reps K g H ds vs → (∀ d ∈ ds, ∀ e ∈ ds, ∀ v u, Rep K g H d v → Rep K g H e u → R v u → S d e) → vs.Pairwise R → ds.Pairwise S
  | _, _, .nil, _, _ => .nil
  | _, _, .cons a t, w, h => by
    obtain ⟨h1, h2⟩ := List.pairwise_cons.mp h
    refine List.pairwise_cons.mpr ⟨fun e he => ?_, t.pairwise (fun d hd e he => w d (List.mem_cons_of_mem _ hd) e (List.mem_cons_of_mem _ he)) h2⟩
    obtain ⟨u, m, r⟩ := t.memD he
    exact w _ List.mem_cons_self _ (List.mem_cons_of_mem _ he) _ _ a r (h1 u m)
def toPair : D → Int × Int
  | .tup [.int i, .int j] => (i, j)
  | _ => (0, 0)
theorem pairs_of : ∀ {ds : List D} {ps : List (Int × Int)}, allM D.pair? ds = some ps → ds = ps.map ofPair
  | [], _, h => by cases h; rfl
  | d :: ds, _, h => by
    unfold allM at h
    split at h
    · rename_i a as h1 h2
      cases h
      rw [pairs_of h2]
      have e : d = ofPair a := by
        unfold D.pair? at h1
        split at h1
        · cases h1; rfl
        · cases h1
      rw [e]
      rfl
    · cases h
theorem toPair_map (ps : List (Int × Int)) : (ps.map ofPair).map toPair = ps := by
  rw [List.map_map]
  have e : toPair ∘ ofPair = id := funext fun p => rfl
  rw [e, List.map_id]
theorem ints_inv {K : PySem.W.Frag} {g : G} {H : Hp} {d : D} {v : V} {i j : Int} (r : Rep K g H d v) (e : d = ofPair (i, j)) : ∃ a, v = .ref a ∧ SqT K H a [.int i, .int j] := by
  subst e
  cases r with
  | tup h z r =>
    cases r with
    | cons a t =>
      cases t with
      | cons b t =>
        cases t
        cases a
        cases b
        exact ⟨_, rfl, h⟩
theorem code_two (B x y : Int) : TS.code B [x, y] = x * B + y := by
  show x * B ^ 1 + (y * B ^ 0 + 0) = x * B + y
  rw [Int.pow_succ, Int.pow_zero, Int.one_mul, Int.mul_one, Int.add_zero]
theorem code_le {B x y x' y' : Int} (h : TS.code B [x, y] ≤ TS.code B [x', y']) (b : 0 ≤ y ∧ y < B) (c : 0 ≤ y' ∧ y' < B) : x < x' ∨ (x = x' ∧ y ≤ y') := by
  rw [code_two, code_two] at h
  rcases Int.lt_trichotomy x x' with q | q | q
  · exact .inl q
  · subst q
    exact .inr ⟨rfl, by omega⟩
  · exfalso
    have e : (x' + 1) * B ≤ x * B := Int.mul_le_mul_of_nonneg_right (by omega) (by omega)
    rw [Int.add_mul, Int.one_mul] at e
    omega
def topB : List (Int × Int) → Int
  | [] => 1
  | p :: ps => max (max (p.1 + 1) (p.2 + 1)) (topB ps)
theorem topB_lt : ∀ {ps : List (Int × Int)} {p : Int × Int}, p ∈ ps → p.1 < topB ps ∧ p.2 < topB ps
  | q :: ps, p, h => by
    show p.1 < max (max (q.1 + 1) (q.2 + 1)) (topB ps) ∧ p.2 < max (max (q.1 + 1) (q.2 + 1)) (topB ps)
    rcases List.mem_cons.mp h with e | h
    · rw [e]; omega
    · have := topB_lt h
      omega
section
variable {X : Cx} {en : Ent} {W : WX} {pos : Pos}
theorem p_sorted : CallR X (.builtin "sorted") (rP X.K .sorted) := by
  intro pins s σ H xs us Q I r ⟨g, O, ds, d, o, ap, bs, ha, k⟩
  simp only [P.app, aSorted] at ha
  split at ha
  · rename_i zs
    obtain ⟨x, rfl, bx⟩ := bs.one
    obtain ⟨a, vs, rfl, h, z, r'⟩ := bx.lst_
    split at ha
    · rename_i is hi
      cases ha
      have hv := ints_of r' hi
      rw [hv] at h
      have hlen : (sortI is).length ≤ sizeLine := by
        have e := r'.length
        rw [hv, List.length_map] at e
        rw [(sortI_perm is).length_eq]
        omega
      refine cr_sortedI pins s σ H _ us Q I r ⟨a, is, rfl, .inl (.inl h), fun ns p hp hs hn => ?_⟩
      rw [sortI_one hp hs]
      exact k _ _ (same_upd hn) (newL ap hn (Reps.ints _) (by rw [List.length_map]; exact hlen))
    · split at ha
      · rename_i ps hps
        split at ha
        · rename_i hc
          cases ha
          have hz := pairs_of hps
          subst hz
          have nn : ∀ p ∈ ps, 0 ≤ p.1 ∧ 0 ≤ p.2 := fun p hp => by
            have q := List.all_eq_true.mp hc.2 p hp
            rw [Bool.and_eq_true] at q
            exact ⟨of_decide_eq_true q.1, of_decide_eq_true q.2⟩
          refine cr_sortT (d := 2) (B := topB ps) (by decide) pins s σ H _ us Q I r ⟨a, vs, rfl, .inl (.inl h), ?_, fun v hv => ?_, fun ys p hp hs hn => ?_⟩
          · rw [← r'.length, List.length_map]; exact hc.1
          · obtain ⟨d, hd, rd⟩ := r'.mem_ hv
            obtain ⟨q, hq, rfl⟩ := List.mem_map.mp hd
            obtain ⟨b, e, sq⟩ := ints_inv (i := q.1) (j := q.2) rd rfl
            refine ⟨[q.1, q.2], ⟨b, e, sq⟩, rfl, fun m hm => ?_⟩
            have t := topB_lt hq
            have n := nn q hq
            simp only [List.mem_cons, List.not_mem_nil, or_false] at hm
            rcases hm with rfl | rfl
            · exact ⟨n.1, t.1⟩
            · exact ⟨n.2, t.2⟩
          · obtain ⟨es, pe, re⟩ := r'.perm hp.symm
            have ee : es = (es.map toPair).map ofPair := by
              rw [List.map_map]
              have : ∀ e ∈ es, (ofPair ∘ toPair) e = e := fun e he => by
                obtain ⟨q, _, rfl⟩ := List.mem_map.mp (pe.mem_iff.mp he)
                rfl
              rw [List.map_congr_left this, List.map_id']
            have pp : (es.map toPair).Perm ps := by
              have q := pe.map toPair
              rw [toPair_map] at q
              exact q
            have sp : (es.map toPair).Pairwise (fun p q => leP p q = true) := by
              rw [List.pairwise_map]
              refine re.pairwise (fun d hd e he v u rd re q => ?_) hs
              obtain ⟨p1, m1, rfl⟩ := List.mem_map.mp (pe.mem_iff.mp hd)
              obtain ⟨p2, m2, rfl⟩ := List.mem_map.mp (pe.mem_iff.mp he)
              obtain ⟨b1, e1, sq1⟩ := ints_inv (i := p1.1) (j := p1.2) rd rfl
              obtain ⟨b2, e2, sq2⟩ := ints_inv (i := p2.1) (j := p2.2) re rfl
              have c := code_le (q [p1.1, p1.2] [p2.1, p2.2] ⟨b1, e1, sq1⟩ ⟨b2, e2, sq2⟩) ⟨(nn p1 m1).2, (topB_lt m1).2⟩ ⟨(nn p2 m2).2, (topB_lt m2).2⟩
              exact leP_iff.mpr c
            have e2 := sortP_one pp sp
            rw [← e2, ← ee] at k
            have hlen : es.length ≤ sizeLine := by rw [pe.length_eq]; exact z
            exact k _ _ (same_upd hn) (newL ap hn re hlen)
        · cases ha
      · cases ha
  · rename_i zs
    obtain ⟨is, hi, hd⟩ := Option.map_eq_some_iff.mp ha
    cases hd
    obtain ⟨x, rfl, bx⟩ := bs.one
    obtain ⟨a, vs, rfl, h, z, r'⟩ := bx.tup_
    have hv := ints_of r' hi
    rw [hv] at h
    have hlen : (sortI is).length ≤ sizeLine := by
      have e := r'.length
      rw [hv, List.length_map] at e
      rw [(sortI_perm is).length_eq]
      omega
    refine cr_sortedIT pins s σ H _ us Q I r ⟨a, is, rfl, h, fun ns p hp hs hn => ?_⟩
    rw [sortI_one hp hs]
    exact k _ _ (same_upd hn) (newL ap hn (Reps.ints _) (by rw [List.length_map]; exact hlen))
  · cases ha
/-! ### len(set(x)), x a tuple of ints -/
theorem dedup_mem : ∀ {is : List Int} {j : Int}, j ∈ dedupI is ↔ j ∈ is
  | [], _ => .rfl
  | i :: is, j => by
    unfold dedupI
    split
    · rename_i hm
      rw [dedup_mem, List.mem_cons]
      exact ⟨.inr, fun z => z.elim (fun e => e ▸ hm) id⟩
    · rw [List.mem_cons, List.mem_cons, dedup_mem]
theorem dedup_nodup : ∀ is : List Int, (dedupI is).Nodup
  | [] => List.nodup_nil
  | i :: is => by
    unfold dedupI
    split
    · exact dedup_nodup is
    · rename_i hm
      exact List.nodup_cons.mpr ⟨fun z => hm (dedup_mem.mp z), dedup_nodup is⟩
theorem dedup_le_ : ∀ is : List Int, (dedupI is).length ≤ is.length
  | [] => Nat.le_refl _
  | i :: is => by
    have := dedup_le_ is
    unfold dedupI
    split
    · simp only [List.length_cons]; omega
    · simp only [List.length_cons]; omega
theorem intsAre_of : ∀ {ns : List Int} {us : List Value}, Vals (ns.map V.int) us → IntsAre us ns
  | [], _, h => by
    cases h
    exact .nil
  | n :: ns, _, h => by
    cases h with
    | cons r t =>
      obtain ⟨k, rfl⟩ := r
      exact .cons n k (intsAre_of t)
def tLenSet (K : PySem.W.Frag) (ta : TE) : TE := fun σ H Q => ta σ H fun x H1 => ∃ (l : Addr) (ns : List Int), x = .ref l ∧ SqT K H1 l (ns.map V.int) ∧ ns.length ≤ 4000 ∧ Q (.int ((dedupI ns).length : Nat)) H1
theorem pe_lenSet {a : Expr} {ta : TE} {p p2 q pos : Pos} (hc : X.calm = true) (hg : Gl X "len") (hm : X.mg "len" = none) (hg2 : Gl X "set") (hm2 : X.mg "set" = none) (ha : PE X a ta)
    (na : starEach [a] X.env = (false, eval a X.env) :: starEach [] X.env) : PE X (.Call (.Name "len" p) [.Call (.Name "set" p2) [a] [] q] [] pos) (tLenSet X.K ta) := by
  refine ⟨fun pins s σ H Q I h => ?_⟩
  refine Call_ (ld_blt I hg hm PySem.boot_len ?_)
  refine PyProof.Rows.callWith_builtin1 (PyProof.Rows.args_cons ?_ rfl) rfl rfl
  refine Call_ (ld_blt I hg2 hm2 PyProof.Rows.boot_set ?_)
  refine PyProof.Rows.callWith_type1 (PyProof.Rows.args_cons (thn (ha.run pins s σ H _ I h) fun v s1 ⟨x, H1, I1, r1, q1⟩ => PyProof.Rows.args_nil ?_) na) na rfl
  obtain ⟨l, ns, rfl, hq, hl, q1⟩ := q1
  cases r1
  obtain ⟨its, r, pl, hz⟩ := I1.tuple hq
  have hi : IntsAre its.toArray.toList ns := by
    have z := intsAre_of r
    simpa using z
  refine call_set_tupI ns (I1.ok.hd hc) pl hi (by unfold scanBound; omega) fun h' tk c hS hcn hk => ?_
  refine PyProof.Rows.args_nil ?_
  obtain ⟨o, es, ep, t, ho, hex, hd, _, nd, mm, _, hf, hn, _⟩ := hS
  have I2 : Inv X pins σ H1 { s1 with heap := h', toks := tk } := I1.kept fun b o e => hk b o e
  have hsz : es.size = (dedupI ns).length := by
    have pm := (List.perm_ext_iff_of_nodup nd (dedup_nodup ns)).mpr fun k => by
      rw [← mm k, dedup_mem, decide_eq_true_iff]
    have e := pm.length_eq
    rw [List.length_map, Array.length_toList] at e
    exact e
  have dl := dedup_le_ ns
  exact call_len_set ho hex hd hf (by rw [hsz]; omega) ⟨.int ((dedupI ns).length : Nat), H1, I2.tok _, ⟨_, by rw [hsz]⟩, q1⟩
theorem sim_lenset {a : C} {x : Expr} {p p2 q : Pos} (hc : X.calm = true) (hg : Gl X "len") (hm : X.mg "len" = none) (hg2 : Gl X "set") (hm2 : X.mg "set" = none) (ha : PE X x (tSimO X.K en W a))
    (na : starEach [x] X.env = (false, eval x X.env) :: starEach [] X.env) : PE X (.Call (.Name "len" p) [.Call (.Name "set" p2) [x] [] q] [] pos) (tSim X.K en W (.prim .lenset (.cons a .nil))) :=
  (pe_lenSet hc hg hm hg2 hm2 ha na).impD fun σ H Q h => tSimO_mono (prim1 h) fun v H' ⟨g, O, ds, d, o, ap, bs, ha, k⟩ => by
    simp only [P.app, aLenset] at ha
    split at ha
    · split at ha
      · rename_i hc
        obtain ⟨is, hi, hd⟩ := Option.map_eq_some_iff.mp ha
        cases hd
        obtain ⟨x, e, bx⟩ := bs.one
        have e := list1 e
        subst e
        obtain ⟨b, vs, rfl, h, z, r⟩ := bx.tup_
        have hv := ints_of r hi
        have hl := r.length
        rw [hv, List.length_map] at hl
        rw [hv] at h
        exact ⟨b, is, rfl, h, by omega, k _ _ Grow.refl (Rep.int _)⟩
      · cases ha
    · cases ha
/-! ### list(range(n)), list(range(m, n)) -/
theorem reps_rg {K : PySem.W.Frag} {g : G} {H : Hp} (a b : Int) : Reps K g H (rngL a (b - a).toNat) (rgV a b) := by
  have e1 : rngL a (b - a).toNat = ((List.range (b - a).toNat).map fun (i : Nat) => a + (i : Int)).map D.int := by
    unfold rngL
    rw [List.map_map]
    rfl
  have e2 : rgV a b = ((List.range (b - a).toNat).map fun (i : Nat) => a + (i : Int)).map V.int := by
    unfold rgV
    rw [List.map_map]
    rfl
  rw [e1, e2]
  exact Reps.ints _
theorem rg_len (a : Int) (n : Nat) : (rngL a n).length = n := by
  unfold rngL
  rw [List.length_map, List.length_range]
theorem sim_listrange {a : C} {x : Expr} {p p2 q : Pos} (hc : X.calm = true) (hg : Gl X "list") (hm : X.mg "list" = none) (hg2 : Gl X "range") (hm2 : X.mg "range" = none) (ha : PE X x (tSimO X.K en W a))
    (na : starEach [x] X.env = (false, eval x X.env) :: starEach [] X.env) : PE X (.Call (.Name "list" p) [.Call (.Name "range" p2) [x] [] q] [] pos) (tSim X.K en W (.prim .listrange (.cons a .nil))) :=
  (pe_listRg hc hg hm (prg_1 hg2 hm2 ha na)).impD fun σ H Q h => tSimO_mono (prim1 h) fun v H' ⟨g, O, ds, d, o, ap, bs, ha, k⟩ => by
    simp only [P.app, aListrange] at ha
    split at ha
    · split at ha
      · rename_i n hc
        cases ha
        obtain ⟨x, e, bx⟩ := bs.one
        have e := list1 e
        subst e
        rw [bx.int_]
        refine ⟨n, rfl, RgOk.of_le (by omega) (by omega) (by omega) (by omega), fun q hq => ?_⟩
        have r := reps_rg (K := X.K) (g := g) (H := H') 0 n
        rw [Int.sub_zero] at r
        exact k _ _ (same_upd hq) (newL ap hq r (by rw [rg_len, sizeLine_eq]; omega))
      · cases ha
    · exfalso
      obtain ⟨_, _, e, _⟩ := bs.two
      cases e
    · cases ha
theorem sim_listrange2 {a b : C} {x y : Expr} {p p2 q : Pos} (hc : X.calm = true) (hg : Gl X "list") (hm : X.mg "list" = none) (hg2 : Gl X "range") (hm2 : X.mg "range" = none) (ha : PE X x (tSimO X.K en W a)) (hb : PE X y (tSimO X.K en W b))
    (na : starEach [x, y] X.env = (false, eval x X.env) :: starEach [y] X.env) (nb : starEach [y] X.env = (false, eval y X.env) :: starEach [] X.env) : PE X (.Call (.Name "list" p) [.Call (.Name "range" p2) [x, y] [] q] [] pos) (tSim X.K en W (.prim .listrange (.cons a (.cons b .nil)))) :=
  (pe_listRg hc hg hm (prg_2 hg2 hm2 ha hb na nb (by rw [nb]; rfl))).impD fun σ H Q h => tSimO_mono (prim2 h) fun v H1 h => tSimO_mono h fun u H' ⟨g, O, ds, d, o, ap, bs, ha, k⟩ => by
    simp only [P.app, aListrange] at ha
    split at ha
    · exfalso
      obtain ⟨_, e, _⟩ := bs.one
      cases e
    · split at ha
      · rename_i m n hc
        cases ha
        obtain ⟨x, y, e, bx, by'⟩ := bs.two
        obtain ⟨e1, e2⟩ := list2 e
        subst e1 e2
        rw [bx.int_, by'.int_]
        refine ⟨m, n, rfl, rfl, ⟨by omega, by omega, by omega, by omega, by omega⟩, fun q hq => ?_⟩
        exact k _ _ (same_upd hq) (newL ap hq (reps_rg m n) (by rw [rg_len, sizeLine_eq]; omega))
      · cases ha
    · cases ha
end
end Dd

/-! Dd8e: max(x, default=d), min(x, default=d). -/
namespace Dd
open L2 PyProof.Rows PySem.Spec PySem
theorem maxI_fold {is : List Int} : ∀ {a : Int}, maxI (a :: is) = some (is.foldl max a) := rfl
theorem minI_fold {is : List Int} : ∀ {a : Int}, minI (a :: is) = some (is.foldl min a) := rfl
/-- a list of whole numbers as data -/
theorem readsAll_ints {h : Heap} : ∀ {is : List Int} {us : List Value}, Vals (is.map V.int) us → ∃ as, ReadsAll h us (is.map PyData.int) as
  | [], _, r => by cases r; exact ⟨_, .nil⟩
  | i :: is, _, r => by
    cases r with
    | cons r1 r2 =>
      obtain ⟨t, rfl⟩ := r1
      obtain ⟨as, q⟩ := readsAll_ints r2
      exact ⟨_, .cons (.int i t) q⟩
theorem alike_ints (is : List Int) : PySem.W.AlikeAll (is.map PyData.int) := by
  refine ⟨fun x hx y hy => ?_, fun x hx z => ?_⟩
  · obtain ⟨i, _, rfl⟩ := List.mem_map.mp hx
    obtain ⟨j, _, rfl⟩ := List.mem_map.mp hy
    rfl
  · obtain ⟨i, _, rfl⟩ := List.mem_map.mp hx
    cases z
theorem depthP_ints (is : List Int) : PyData.depthAll (is.map PyData.int) ≤ 1 := by
  induction is with
  | nil => simp [PyData.depthAll]
  | cons i is ih =>
    simp only [List.map_cons, PyData.depthAll]
    have : (PyData.int i).depth ≤ 1 := by simp [PyData.depth]
    omega
def rBestD (mx : Bool) (K : PySem.W.Frag) : List V → List V → Hp → VK → Prop := fun vs zs H Q => ∃ (a : Addr) (is : List Int) (z : V), vs = [V.ref a] ∧ zs = [z] ∧ SqL K H a (is.map V.int) ∧
  Q (match (if mx = true then maxI is else minI is) with | some m => .int m | none => z) H
section
variable {X : Cx} {en : Ent} {W : WX} {pos : Pos}
theorem cr_maxd (hc : X.calm = true) (hu : X.A.units + 64 < cLine) : CallRK X (.builtin "max") [Str.ofString "default"] (rBestD true X.K) := by
  intro pins s σ H vs zs us ws Q I r rz h
  obtain ⟨a, is, z, rfl, rfl, hs, q⟩ := h
  obtain ⟨its, rv, hl, hz⟩ := I.list hs
  obtain rfl := Vals.ref1 r
  obtain ⟨w1, rfl, e1⟩ := vals1 rz
  obtain ⟨as, hr⟩ := readsAll_ints (h := s.heap) rv
  rw [if_pos rfl] at q
  refine PySem.W.max_list_default (vs := its.toArray) (I.ok.hd hc) hl.isList (by simpa using hr) (alike_ints is) (by have := depthP_ints is; omega) (fun e h' tk k => ?_) fun y ys i v h' tk bs e hv rd k => ?_
  · cases is with
    | nil => exact ⟨z, H, I.kept k, e1, q⟩
    | cons _ _ => cases e
  · cases is with
    | nil => cases e
    | cons x xs =>
      cases e
      rw [PySem.W.maxD_ints] at rd
      cases rd
      rw [maxI_fold] at q
      exact ⟨.int (xs.foldl max x), H, I.kept k, ⟨_, rfl⟩, q⟩
theorem cr_mind (hc : X.calm = true) (hu : X.A.units + 64 < cLine) : CallRK X (.builtin "min") [Str.ofString "default"] (rBestD false X.K) := by
  intro pins s σ H vs zs us ws Q I r rz h
  obtain ⟨a, is, z, rfl, rfl, hs, q⟩ := h
  obtain ⟨its, rv, hl, hz⟩ := I.list hs
  obtain rfl := Vals.ref1 r
  obtain ⟨w1, rfl, e1⟩ := vals1 rz
  obtain ⟨as, hr⟩ := readsAll_ints (h := s.heap) rv
  rw [if_neg (by simp)] at q
  refine PySem.W.min_list_default (vs := its.toArray) (I.ok.hd hc) hl.isList (by simpa using hr) (alike_ints is) (by have := depthP_ints is; omega) (fun e h' tk k => ?_) fun y ys i v h' tk bs e hv rd k => ?_
  · cases is with
    | nil => exact ⟨z, H, I.kept k, e1, q⟩
    | cons _ _ => cases e
  · cases is with
    | nil => cases e
    | cons x xs =>
      cases e
      rw [PySem.W.minD_ints] at rd
      cases rd
      rw [minI_fold] at q
      exact ⟨.int (xs.foldl min x), H, I.kept k, ⟨_, rfl⟩, q⟩
theorem rBest_of {p : P} {mx : Bool} {a d : V} {H : Hp} {Q : VK} (hp : p = if mx = true then .maxd else .mind) (h : rP X.K p [a, d] H Q) : rBestD mx X.K [a] [d] H Q := by
  obtain ⟨g, O, ds, dd, o, ap, bs, ha, k⟩ := h
  obtain ⟨x, y, rfl, bx, by'⟩ : ∃ x y, ds = [x, y] ∧ RepB X.K g H x a ∧ RepB X.K g H y d := by
    cases bs with
    | cons b1 b2 =>
      cases b2 with
      | cons b2 b3 =>
        cases b3
        exact ⟨_, _, rfl, b1, b2⟩
  have key : ∃ is zs, x = .lst zs ∧ allM D.int? zs = some is ∧ y.flat = true ∧ dd = orD (if mx = true then maxI is else minI is) y ∧ o = false := by
    cases mx with
    | true =>
      rw [if_pos rfl] at hp
      subst hp
      simp only [P.app, aMaxd] at ha
      split at ha
      · rename_i heq
        cases heq
        split at ha
        · rename_i hf
          obtain ⟨is, hi, hd⟩ := Option.map_eq_some_iff.mp ha
          cases hd
          exact ⟨is, _, rfl, hi, hf, rfl, rfl⟩
        · cases ha
      · cases ha
    | false =>
      rw [if_neg (by simp)] at hp
      subst hp
      simp only [P.app, aMind] at ha
      split at ha
      · rename_i heq
        cases heq
        split at ha
        · rename_i hf
          obtain ⟨is, hi, hd⟩ := Option.map_eq_some_iff.mp ha
          cases hd
          exact ⟨is, _, rfl, hi, hf, rfl, rfl⟩
        · cases ha
      · cases ha
  obtain ⟨is, zs, rfl, hi, hf, rfl, rfl⟩ := key
  obtain ⟨a', vs, rfl, h, z, r'⟩ := bx.lst_
  rw [ints_of r' hi] at h
  refine ⟨a', is, d, rfl, rfl, .inl (.inl h), ?_⟩
  refine k _ H Grow.refl ?_
  generalize (if mx = true then maxI is else minI is) = m
  cases m with
  | some m => exact Rep.int m
  | none =>
    show Rep X.K g H y d
    cases y with
    | lst xs => cases hf
    | non => exact by'
    | bl b => exact by'
    | int i => exact by'
    | str z => exact by'
    | tup xs => cases hf
    | dct ks vs => cases hf
    | ref l => cases hf
    | scr ns => cases hf
theorem sim_bestd {mx : Bool} {f : String} {p : P} {a d : C} {x : Str} {np kp : Pos} {y z : Expr} (hp : p = if mx = true then .maxd else .mind) (hr : CallRK X (.builtin f) [Str.ofString "default"] (rBestD mx X.K)) (hg : Gl X x) (hm : X.mg x = none) (hv : bootBuiltins x = some (.builtin f)) (hn : x ≠ "__name__") (hd : (x == ("__debug__" : Str)) = false)
    (ha : PE X y (tSimO X.K en W a)) (hz : PE X z (tSimO X.K en W d)) (he : ∀ es, starEach (y :: es) X.env = (false, eval y X.env) :: starEach es X.env) :
    PE X (.Call (.Name x np) [y] [⟨some (Str.ofString "default"), z, kp⟩] pos) (tSim X.K en W (.prim p (.cons a (.cons d .nil)))) := by
  have e1 : starEach [y] X.env = [(false, eval y X.env)] := he []
  have pa : PA X [y] (tCons (tSimO X.K en W a) tNil) := pa_cons ha pa_nil (he _)
  have pk : PK X [⟨some (Str.ofString "default"), z, kp⟩] (tCons (tSimO X.K en W d) tNil) := pk_cons hz pk_nil
  refine (pe_callBK hr hg hm hv pa pk hn hd (by rw [e1]; rfl) (by rw [e1]; rfl)).impD fun σ H Q q => ?_
  refine tSimO_mono (prim2 q) fun v H' q => ?_
  refine tSimO_mono q fun u H2 q => ?_
  exact rBest_of hp q
/-! ### repr of what has cells within -/
mutual
theorem reads_deep {pins : List (Addr × Obj)} {s : Shared} {σ : L2.St} {H : Hp} {g : G} {h : CH} (I : Inv X pins σ H s) (cc : Cells X.K g h H) : ∀ {d : D} {v : V} {d' : D}, Rep X.K g H d v → deep h d = some d' → ∀ {u : Value}, RelV v u → ∃ as, Reads s.heap u d'.py as ∧ ∀ a ∈ as, H a ≠ none
  | _, _, _, .non, e, _, r => by cases e; exact reads_of I (g := g) .non rfl r
  | _, _, _, .bl b, e, _, r => by cases e; exact reads_of I (g := g) (.bl b) rfl r
  | _, _, _, .int i, e, _, r => by cases e; exact reads_of I (g := g) (.int i) rfl r
  | _, _, _, .str x, e, _, r => by cases e; exact reads_of I (g := g) (.str x) rfl r
  | _, _, _, .tup h1 z r, e, _, q => by
    unfold deep at e
    obtain ⟨ys, ey, rfl⟩ := Option.map_eq_some_iff.mp e
    cases q
    obtain ⟨its, rv, ⟨o, ho, hc, n, hd⟩, _⟩ := I.tuple h1
    obtain ⟨as, hr, w⟩ := readss_deep I cc r ey rv
    exact ⟨as, Reads.tuple ho hc hd hr, w⟩
  | _, _, _, .lst h1 f z r, e, _, q => by
    unfold deep at e
    split at e
    · rename_i hp
      cases e
      exact reads_of I (.lst h1 f z r) (by simpa only [D.pure] using hp) q
    · cases e
  | _, _, _, .dct h f e1 r, e, _, q => by unfold deep at e; cases e
  | _, _, _, .ref (l := l) hm, e, _, q => by
    unfold deep at e
    split at e
    · rename_i xs hx
      split at e
      · rename_i hp
        cases e
        obtain ⟨vs, e2, z, t⟩ := cc.at_ _ _ _ hm hx
        exact readsB I (d := .lst xs) (g := g) ⟨_, vs, rfl, e2, z, t⟩ (by simpa only [D.pure] using hp) q
      · cases e
    · cases e
  | _, _, _, .scr h, e, _, q => by unfold deep at e; cases e
theorem readss_deep {pins : List (Addr × Obj)} {s : Shared} {σ : L2.St} {H : Hp} {g : G} {h : CH} (I : Inv X pins σ H s) (cc : Cells X.K g h H) : ∀ {ds : List D} {vs : List V} {es : List D}, Reps X.K g H ds vs → deeps h ds = some es → ∀ {us : List Value}, Vals vs us → ∃ as, ReadsAll s.heap us (D.pys es) as ∧ ∀ a ∈ as, H a ≠ none
  | _, _, _, .nil, e, _, r => by
    cases r
    cases e
    exact ⟨[], .nil, fun _ z => nomatch z⟩
  | _, _, _, .cons a t, e, _, r => by
    cases r with
    | cons r1 r2 =>
      unfold deeps at e
      split at e
      · rename_i y ys e1 e2
        cases e
        obtain ⟨as, q1, w1⟩ := reads_deep I cc a e1 r1
        obtain ⟨bs, q2, w2⟩ := readss_deep I cc t e2 r2
        refine ⟨as ++ bs, .cons q1 q2, fun b hb => ?_⟩
        rcases List.mem_append.mp hb with hb | hb
        · exact w1 b hb
        · exact w2 b hb
      · cases e
end
def rReprC (K : PySem.W.Frag) : List V → Hp → VK → Prop := fun vs H Q => ∃ g h d d' v z, vs = [v] ∧ Cells K g h H ∧ Rep K g H d v ∧ deep h d = some d' ∧ aRepr [d'] = some (.str z, false) ∧ Q (.str z) H
theorem cr_reprC (hg : X.A.guards = some []) (hu : X.A.units + 100 < cLine) (hs : ∃ o, X.base.get? sysModules = some o) : CallR X (.builtin "repr") (rReprC X.K) := by
  intro pins s σ H xs us Q I r hr
  obtain ⟨g, h, d, d', v, z, ex, cc, rep, hd, ha, q⟩ := hr
  subst ex
  obtain ⟨u, rfl, rx⟩ := vals1 r
  simp only [aRepr] at ha
  split at ha
  · rename_i hc
    cases ha
    obtain ⟨c, c4⟩ := Bool.and_eq_true_iff.mp hc
    obtain ⟨c, c3⟩ := Bool.and_eq_true_iff.mp c
    obtain ⟨c1, c2⟩ := Bool.and_eq_true_iff.mp c
    obtain ⟨as, rd, w⟩ := reads_deep I cc rep hd rx
    obtain ⟨so, hso⟩ := hs
    exact repr_run hg hu I rd (fun z => w _ z (I.bs _ so hso).2) (of_decide_eq_true c2) c3 (SZ_eq ▸ of_decide_eq_true c4) q
  · cases ha
theorem sim_reprC {c : C} {np : Pos} {y : Expr} {x : Str} (hg : X.A.guards = some []) (hu : X.A.units + 100 < cLine) (hs : ∃ o, X.base.get? sysModules = some o) (hx : x = "repr") (hgl : Gl X x) (hm : X.mg x = none) (ha : PE X y (tSim X.K en W c))
    (he : ∀ es, starEach (y :: es) X.env = (false, eval y X.env) :: starEach es X.env) : PE X (.Call (.Name x np) [y] [] pos) (tSim X.K en W (.reprC c)) := by
  subst hx
  have hargs : PA X [y] (tCons (tSim X.K en W c) tNil) := pa_cons ha pa_nil (he _)
  refine (pe_callB (cr_reprC hg hu hs) hgl hm (by decide +kernel) hargs (by decide) (by decide) (he _) rfl).impD fun σ H Q q => ?_
  obtain ⟨g, s, r, q⟩ := q
  have q : post X.K en W σ (Own s.sl σ) g H ((ev c s).bind fun d s => match deep s.h d.1 with
    | some e => (match aRepr [e] with
      | some r => Out.ok r s
      | none => Out.stuck)
    | none => Out.stuck) _ := q
  refine tSim_F ⟨g, s, r, post_imp (post_bind q) fun d s' g' H' e1 r' k q v rep => ?_⟩
  split at q
  · rename_i e hd
    split at q
    · rename_i rr hr
      obtain ⟨dd, o⟩ := rr
      have hz : ∃ z, dd = .str z ∧ o = false := by
        simp only [aRepr] at hr
        split at hr
        · cases hr
          exact ⟨_, rfl, rfl⟩
        · cases hr
      obtain ⟨z, rfl, rfl⟩ := hz
      exact ⟨g', s'.h, d.1, e, v, z, rfl, r'.cells, rep, hd, hr, q g' H' r' Keep.refl (.str z) (Rep.str z)⟩
    · exact q.elim
  · exact q.elim
end
end Dd

/-! Dd8f: a[::-1]; [f, g][w](..). -/
namespace Dd
open L2 PyProof.Rows PySem.Spec PySem

section
variable {prog : Program} {w : World} {A : Around} {E : Value → Shared → Prop} {s : Shared}
theorem rev_adjust (n : Nat) : Builtin.Slice.sliceAdjust none none (-1) (n : Int) = ((n : Int) - 1, -1) := by
  unfold Builtin.Slice.sliceAdjust
  simp
theorem rev_places (n : Nat) : Builtin.Slice.slicePlaces ((n : Int) - 1) (-1) (-1) = n := by
  unfold Builtin.Slice.slicePlaces
  rw [if_neg (by decide)]
  by_cases h : (n : Int) - 1 > -1
  · rw [if_pos h]
    have e : ((n : Int) - 1 - -1 - 1) / (- -1) = (n : Int) - 1 := by
      rw [show (- -1 : Int) = 1 by decide, Int.ediv_one]
      omega
    rw [e]
    omega
  · rw [if_neg h]
    omega
theorem fm_congr {α β : Type} {f g : α → Option β} : ∀ {l : List α}, (∀ a ∈ l, f a = g a) → l.filterMap f = l.filterMap g
  | [], _ => rfl
  | a :: l, h => by
    rw [List.filterMap_cons, List.filterMap_cons, h a List.mem_cons_self, fm_congr fun b hb => h b (List.mem_cons_of_mem a hb)]
theorem rev_pick (xs : Array Value) : ((List.range xs.size).filterMap fun (m : Nat) => xs[(((xs.size : Int) - 1) + (m : Int) * -1).toNat]?).toArray = xs.toList.reverse.toArray := by
  have e : ((List.range xs.size).filterMap fun (m : Nat) => xs[(((xs.size : Int) - 1) + (m : Int) * -1).toNat]?) = ((List.range xs.size).map (fun k => xs.size - 1 - k)).filterMap (xs[·]?) := by
    rw [List.filterMap_map]
    refine fm_congr fun m hm => ?_
    have := List.mem_range.mp hm
    have e : (((xs.size : Int) - 1) + (m : Int) * -1).toNat = xs.size - 1 - m := by omega
    simp only [e, Function.comp]
  rw [e, PySem.W.krv_range, List.filterMap_reverse, PySem.W.krv_all]
theorem rev_applied {sl : Addr} {t : Tok} {n : Nat} {Q : Int × Int × Nat → Shared → Prop} (hs : s.heap.IsSliceOf sl .none .none (.int (-1) t))
    (h : Q ((n : Int) - 1, -1, n) s) : wpAny (model prog w) A (Builtin.Slice.sliceApplied (.ref sl) (pure (n : Int))) Q E s := by
  obtain ⟨os, hos, hcs, hds⟩ := id hs
  unfold Builtin.Slice.sliceApplied Builtin.Slice.sliceFields
  refine wpAny_bind (wpAny_bind (wpAny_field hos hds (x := .none) rfl (wpAny_bind (wpAny_field hos hds (x := .none) rfl (wpAny_bind (wpAny_field hos hds (x := .int (-1) t) rfl (wpAny_pure ?_)))))))
  refine wpAny_bind (slicePart_int ?_)
  show wpAny _ _ (if ((-1 : Int) == 0) = true then _ else _) _ _ s
  rw [if_neg (by decide)]
  refine wpAny_bind (slicePart_none (wpAny_bind (slicePart_none (wpAny_bind (wpAny_pure ?_)))))
  show wpAny _ _ (match Builtin.Slice.sliceAdjust none none (-1) (n : Int) with | (lo, hi) => pure (lo, (-1 : Int), Builtin.Slice.slicePlaces lo hi (-1))) _ _ s
  rw [rev_adjust n]
  show wpAny _ _ (pure ((n : Int) - 1, (-1 : Int), Builtin.Slice.slicePlaces ((n : Int) - 1) (-1) (-1))) _ _ s
  rw [rev_places]
  exact wpAny_pure h
theorem getItem_tuple_rev {t sl : Addr} {items : Array Value} {k : Tok} {Q : Value → Shared → Prop} (ht : IsTup s.heap t items) (hs : s.heap.IsSliceOf sl .none .none (.int (-1) k))
    (h : Q (.ref s.heap.objs.size) { s with heap := s.heap.push { cls := .type "tuple", data := .seq items.toList.reverse.toArray } })
    (hsz : items.size ≤ sizeLine) : wpAny (model prog w) A (getItem (.ref t) (.ref sl)) Q E s := by
  have htake : sizeOk (.seq items.toList.reverse.toArray) := by
    show items.toList.reverse.toArray.size ≤ sizeLine
    rw [List.size_toArray, List.length_reverse, Array.length_toList]
    exact hsz
  obtain ⟨os, hos, hcs, hds⟩ := id hs
  have hTs : s.TypeIs (.ref sl) "slice" := ⟨os, hos, hcs⟩
  unfold getItem
  try with_reducible refine wpAny_holding ?_
  first | refine wpAny_bind (wpAny_pure ?_) | skip
  refine wpAny_bind (wpAny_sequenceKey ht.typeIs (by decide) ?_)
  refine wpAny_bind (wpAny_callSpecial?_slot (name := Str.ofString "__getitem__") ht.typeIs PyProof.Rows.slot_tuple_getitem
    (wpAny_call_entry PyProof.Rows.slot_tuple_getitem ht.typeIs entry_tuple_getitem ?_ (args_tuple_getitem _ _)))
  show wpAny _ _ (Builtin.Tuple.tupleItemsOf (.ref t) >>= _) _ _ s
  refine wpAny_bind (tupleItemsOf_ ht ?_)
  refine wpAny_bind (wpAny_typeOf hTs ?_)
  rw [if_pos (by decide)]
  refine wpAny_bind (rev_applied hs ?_)
  have hno : ¬ ((((items.size : Int) - 1) == 0 && (-1 : Int) == 1 && items.size == items.size) = true) := by
    intro q
    rw [Bool.and_eq_true, Bool.and_eq_true] at q
    exact absurd (eq_of_beq q.1.2) (by decide)
  show wpAny _ _ (if (((items.size : Int) - 1) == 0 && (-1 : Int) == 1 && items.size == items.size) = true then _ else _) _ _ s
  rw [if_neg hno, rev_pick]
  first
    | exact wpAny_bind (m := Builtin.Tuple.tupleExact _) (wpAny_newObj_type (wpAny_pure ⟨_, rfl, wpAny_pure h⟩) htake)
    | exact wpAny_bind (m := Builtin.Tuple.tupleExact _) (wpAny_newObj_type (wpAny_bind (wpAny_pure (wpAny_pure ⟨_, rfl, wpAny_pure h⟩))) htake)
    | exact wpAny_bind (wpAny_bind (m := Builtin.Tuple.tupleExact _) (wpAny_newObj_type (wpAny_pure (wpAny_pure ⟨_, rfl, wpAny_pure h⟩)) htake))
    | exact wpAny_bind (wpAny_bind (m := Builtin.Tuple.tupleExact _) (wpAny_newObj_type (wpAny_pure ⟨_, rfl, wpAny_pure h⟩) htake))
end
/-- a[::-1] by values -/
theorem vals_rev : ∀ {xs : List V} {us : List Value}, Vals xs us → Vals xs.reverse us.reverse
  | _, _, .nil => .nil
  | _, _, .cons r t => by
    rw [List.reverse_cons, List.reverse_cons]
    exact (vals_rev t).append (.cons r .nil)
theorem Reps.rev {K : PySem.W.Frag} {g : G} {H : Hp} : ∀ {ds : List D} {vs : List V}, Reps K g H ds vs → Reps K g H ds.reverse vs.reverse
  | _, _, .nil => .nil
  | _, _, .cons r t => by
    rw [List.reverse_cons, List.reverse_cons]
    exact t.rev.append (.cons r .nil)
section
variable {X : Cx} {en : Ent} {W : WX} {pos : Pos}
theorem rev_get {pins : List (Addr × Obj)} {σ : L2.St} {H : Hp} {s : Shared} {x : V} {v : Value} {sl : Addr} {t : Tok} {Q : VK} (I : Inv X pins σ H s) (rx : RelV x v) (hs : s.heap.IsSliceOf sl .none .none (.int (-1) t)) (h : rP1 X.K .rev x H Q) :
    ∃ T id, typeLookup (.type T) "__getitem__" = pure (some (.builtin id)) ∧ s.TypeIs v T ∧ wpAny (model X.prog X.w) X.A (getItem v (.ref sl)) (EP X pins σ Q) X.xe s := by
  obtain ⟨g, O, ds, d, o, ap, bs, ha, k⟩ := h
  simp only [P.app, aRev] at ha
  split at ha
  · cases ha
    obtain ⟨_, e, bx⟩ := bs.one
    cases e
    obtain ⟨a, vs, rfl, hx, z, r⟩ := bx.lst_
    cases rx
    obtain ⟨its, rv, ht, hz⟩ := I.list (.inl (.inl hx))
    refine ⟨"list", _, slot_list_getitem.lookup, ht.isList.typeIs, ?_⟩
    refine wpAny_getItem_list_slice ht.isList hs .none .none (.int (-1) t) (by decide) ?_ (by rw [List.size_toArray, ← rv.length]; exact hz)
    rw [PySem.W.krv_pick]
    refine ⟨.ref s.heap.objs.size, _, I.laid (t' := s.toks) (o := .lst vs.reverse) (fun b ob q => Heap.get?_push_of_some _ q) (Nat.le_refl _) ?_, rfl, ?_⟩
    · exact ⟨by rw [List.length_reverse]; exact hz, _, 0, vals_rev rv, Heap.get?_push_size _ rfl⟩
    · have hf := I.hok.fresh (Nat.le_refl s.heap.objs.size)
      exact k _ _ (same_upd hf) (newL ap hf r.rev (by rw [List.length_reverse]; exact z))
  · cases ha
    obtain ⟨_, e, bx⟩ := bs.one
    cases e
    obtain ⟨a, vs, rfl, hx, z, r⟩ := bx.tup_
    cases rx
    obtain ⟨its, rv, ht, hz⟩ := I.tuple hx
    refine ⟨"tuple", _, PyProof.Rows.slot_tuple_getitem.lookup, ht.typeIs, ?_⟩
    refine getItem_tuple_rev ht hs ?_ (by rw [List.size_toArray, ← rv.length]; exact hz)
    refine ⟨.ref s.heap.objs.size, _, I.laid (t' := s.toks) (o := .tup vs.reverse) (fun b ob q => Heap.get?_push_of_some _ q) (Nat.le_refl _) ?_, rfl, ?_⟩
    · exact ⟨by rw [List.length_reverse]; exact hz, _, vals_rev rv, IsTup.new _ _⟩
    · have hf := I.hok.fresh (Nat.le_refl s.heap.objs.size)
      exact k _ _ (same_upd hf) (newT ap hf r.rev (by rw [List.length_reverse]; exact z))
  · cases ha
theorem sim_rev {a : C} {x : Expr} {i : Nat} {p1 p2 p3 : Pos} (ha : PE X x (tSimO X.K en W a)) : PE X (.Subscript x (.Slice none none (some (.UnaryOp .USub (.Constant (.int 1) i p1) p2)) p3) pos) (tSim X.K en W (.prim .rev (.cons a .nil))) := by
  refine ⟨fun pins s σ H Q I h => ?_⟩
  refine Subscript_ (thn (ha.run pins s σ H _ I (prim1 h)) fun v s1 ⟨y, H1, I1, r1, q1⟩ => ?_)
  refine wpAny_Slice ?_
  rw [evalPart_none]
  refine wpAny_pure ?_
  refine wpAny_pure ?_
  rw [evalPart_some]
  refine thn ((pe_un (pos := p2) un_neg (pe_int (i := 1) (j := i) (pos := p1))).run pins s1 σ H1 (fun z H2 => z = .int (-1) ∧ H2 = H1) I1 ⟨1, rfl, rfl, rfl⟩) fun u s2 ⟨z, H2, I2, r2, q2⟩ => ?_
  · obtain ⟨rfl, rfl⟩ := q2
    obtain ⟨t, rfl⟩ := r2
    have I4 : Inv X pins σ H2 { s2 with heap := s2.heap.push { cls := .type "slice", data := .fields #[.none, .none, .int (-1) t] } } := I2.kept (t' := s2.toks) fun b ob q => Heap.get?_push_of_some _ q
    obtain ⟨T, id, hT, ht, hg⟩ := rev_get (sl := s2.heap.objs.size) (t := t) I4 r1 (Heap.IsSliceOf.new ..) q1
    show wpAny (model X.prog X.w) X.A (subscriptTail x _ v (.ref s2.heap.objs.size)) (EP X pins σ Q) X.xe { s2 with heap := s2.heap.push { cls := .type "slice", data := .fields #[.none, .none, .int (-1) t] } }
    exact tail_any (ops := [v, .ref s2.heap.objs.size]) ht hT hg (by with_unfolding_all rfl)
/-! ### [f, g][w](..) -/
/-- the defs' objects, by their names -/
inductive Sels (X : Cx) (xc : Str → Value) : List (Str × FnD) → List Addr → Prop
  | nil : Sels X xc [] []
  | cons {p : Str × FnD} {fs : List (Str × FnD)} {a : Addr} {as : List Addr} : Callee X xc p.1 p.2 → X.mg p.1 = some (.ref a) → Sels X xc fs as → Sels X xc (p :: fs) (a :: as)
theorem Sels.length {xc : Str → Value} {fs : List (Str × FnD)} {as : List Addr} (h : Sels X xc fs as) : fs.length = as.length := by
  induction h with
  | nil => rfl
  | cons _ _ _ ih => simp [ih]
theorem Sels.at {xc : Str → Value} {fs : List (Str × FnD)} {as : List Addr} (h : Sels X xc fs as) : ∀ {i : Nat} {p : Str × FnD}, fs[i]? = some p → ∃ a, as[i]? = some a ∧ Callee X xc p.1 p.2 ∧ X.mg p.1 = some (.ref a) := by
  induction h with
  | nil => intro i p e; simp at e
  | cons c m _ ih =>
    intro i p e
    cases i with
    | zero =>
      simp at e
      subst e
      exact ⟨_, rfl, c, m⟩
    | succ i => exact ih (by simpa using e)
/-- the list of them -/
structure SelN (X : Cx) (xc : Str → Value) (fs : List (Str × FnD)) (ns : List Expr) (as : List Addr) : Prop where
  sels : Sels X xc fs as
  pa : PA X ns (fun _ H Q => Q (as.map V.ref) H)
  len : ns.length = as.length
theorem sim_sel {fs : List (Str × FnD)} {w : C} {cs : Cs} {ns : List Expr} {lp p2 : Pos} {x y : Expr} {es : List Expr} (hn : ∃ as, SelN X en.xc fs ns as) (hl : ns.length ≤ 1000) (hgd : X.A.guards = some []) (tk : Takes X W)
    (hw : PE X x (tSim X.K en W w)) (hx : PlainIx x) (ha : PA X (y :: es) (tSims X.K en W cs))
    (he : starEach (y :: es) X.env = (false, eval y X.env) :: starEach es X.env) (hpl : (backTo pos (starEach es X.env)).any (·.1) = false) : PE X (.Call (.Subscript (.List ns lp) x p2) (y :: es) [] pos) (tSim X.K en W (.sel fs w cs)) := by
  obtain ⟨as, sn⟩ := hn
  refine ⟨fun pins s σ H Q I h => ?_⟩
  obtain ⟨g, st, r, h⟩ := h
  have h : post X.K en W σ (Own st.sl σ) g H ((ev w st).bind fun d s => match selF fs d.1 with
    | some F => (evs cs s).bind fun ds s => (match F ds s.h with
      | .ok a h => Out.ok a { s with h := h }
      | .exc x h => Out.exc x { s with h := h }
      | .stuck => Out.stuck)
    | none => Out.stuck) _ := h
  let QQ : VK := fun v H1 => ∃ (a : Addr) (p : Str × FnD), v = .ref a ∧ Callee X en.xc p.1 p.2 ∧ X.mg p.1 = some (.ref a) ∧ tSim X.K en W (.fn p.1 p.2 cs) σ H1 Q
  have hf := (pe_ix (pos := p2) ix_list (pe_lst (pos := lp) sn.pa) hw hx).run pins s σ H QQ I ?_
  · refine Call_ (thn hf fun f s0 ⟨v, H0, I0, r0, q0⟩ => ?_) (by with_unfolding_all rfl)
    obtain ⟨a, p, rfl, ce, hm, q⟩ := q0
    cases r0
    obtain ⟨f, fd, ps, k, G, hr, hm', hk, hb⟩ := id ce
    have e := hm.symm.trans hm'
    cases e
    refine PySem.W.callWith_K (h₀ := X.base) I0.ok.mod.kin hk (thn (ha.run pos pins s0 σ H0 _ I0 (call_as q)) fun us s1 ⟨vs, H1, I1, r, q⟩ => ⟨I1.kIn, ?_⟩) he hpl
    exact run_callee ce hgd tk I1 r q hm
  · refine ⟨by rw [List.length_map, ← sn.len, sizeLine_eq]; omega, fun p hp => ?_⟩
    have hs := same_upd (o := HO.lst (as.map V.ref)) hp
    have r1 := r.same hs
    obtain ⟨r2, up⟩ := r1.addF (a := p) (o := .lst (as.map V.ref)) upd_same rfl (r.fresh0 hp) (r.notM hp) (r.notO hp)
    have k2 := up hp (Keep.same hs)
    refine ⟨_, st, r2, post_imp (post_bind (post_shift k2 h)) fun d s' g' H' e1 r' k q v rep => ?_⟩
    have hp' : H' p = some (.lst (as.map V.ref)) := (k.F r2.apart (.inr rfl)).trans upd_same
    obtain ⟨d, o⟩ := d
    cases d with
    | int i =>
      have ev' : v = .int i := by
        cases o with
        | false => exact (show Rep X.K g' H' (.int i) v from rep).b.int_
        | true => obtain ⟨_, _, _, z, _⟩ := rep; cases z
      subst ev'
      have q : post X.K en W σ (Own s'.sl σ) g' H' (match (if 0 ≤ i then (fs[i.toNat]?).map (·.2) else none) with
        | some F => (evs cs s').bind fun ds s => (match F ds s.h with
          | .ok a h => Out.ok a { s with h := h }
          | .exc x h => Out.exc x { s with h := h }
          | .stuck => Out.stuck)
        | none => Out.stuck) _ := q
      by_cases h0 : 0 ≤ i
      · rw [if_pos h0] at q
        cases hi : fs[i.toNat]? with
        | none => rw [hi] at q; exact q.elim
        | some pp =>
          rw [hi] at q
          obtain ⟨a, ha, ce, hm⟩ := sn.sels.at hi
          have hat : atI (as.map V.ref) i = some (.ref a) := by
            have e : i = ((i.toNat : Nat) : Int) := by omega
            rw [e]
            exact atI_nat (by rw [List.getElem?_map, ha]; rfl)
          have q : post X.K en W σ (Own s'.sl σ) g' H' (ev (.fn pp.1 pp.2 cs) s') (fun r s' g' H' => ∀ v, RepR X.K H g' H' (Own s'.sl σ) r.1 r.2 v → Q v H') := q
          have qf : tSim X.K en W (.fn pp.1 pp.2 cs) σ H' Q := by
            refine ⟨g', s', r', post_imp q fun rr s2 g2 H2 e2 r2 kk hq v rep2 => hq v ?_⟩
            obtain ⟨dd, oo⟩ := rr
            cases oo with
            | false => exact rep2
            | true =>
              obtain ⟨xs, b, ws, q1, q2, q3, z, t, f, m, n, h0⟩ := rep2
              exact ⟨xs, b, ws, q1, q2, q3, z, t, f, m, n, none_back k2 (none_back k h0)⟩
          exact ⟨p, _, i, .ref a, rfl, rfl, .inl (.inl hp'), hat, a, pp, rfl, ce, hm, qf⟩
      · rw [if_neg h0] at q
        exact q.elim
    | non => exact q.elim
    | bl b => exact q.elim
    | str z => exact q.elim
    | tup xs => exact q.elim
    | lst xs => exact q.elim
    | dct ks vs => exact q.elim
    | ref l => exact q.elim
    | scr ns => exact q.elim
end
end Dd

/-! Dd9a: enumerate over a tuple. -/
namespace Dd
open L2 PyProof.Rows PySem.Spec PySem

/-- the objects of an enumerate over a tuple -/
abbrev oTI (t : Addr) : Obj := { cls := .type "tuple_iterator", data := .fields #[.ref t, .int 0 0] }
abbrev oEn (a : Addr) : Obj := { cls := .type "enumerate", data := .fields #[.none, .bool false, .ref a, rawInt 0, .none, .none] }
abbrev enHeap (h : Heap) (t : Addr) : Heap := (h.push (oTI t)).push (oEn h.objs.size)
/-- enumerate(t) of a tuple: what its making leaves -/
theorem en_new (t : Addr) (its : Array Value) :
    Meets (Builtin.«enumerate.__new__» ⟨[.type "enumerate", .ref t], []⟩)
      (fun _ R s => s.heap.IsTuple t its ∧ R (.ok (.ret (.ref (s.heap.push (oTI t)).objs.size))) { s with heap := enHeap s.heap t }) :=
  .of_wp fun p2 w2 A2 R2 s2 hh => by
    obtain ⟨ht, hR⟩ := hh
    obtain ⟨hp, ge, dr, tk, os⟩ := s2
    have su := sub_enumerate
    have pit : ∀ {A' : Around} {E' : Value → Shared → Prop} {Q' : Value → Shared → Prop},
        Q' (.ref hp.objs.size) ⟨hp.push (oTI t), ge, dr, tk, os⟩ →
        wpAny (model p2 w2) A' (pyIter (.ref t)) Q' E' ⟨hp, ge, dr, tk, os⟩ :=
      fun q => (begins_tuple t its).iter p2 w2 _ _ ⟨hp, ge, dr, tk, os⟩ _ ht q
    wp_walk using pit
    refine wpAny_stack_any fun st => wpAny_pure ?_
    split
    · rename_i cl _ _ _ _ _
      cases (cl == Value.type "enumerate") <;> (wp_walk using pit; exact ⟨_, rfl, hR⟩)
    · wp_walk using pit
      exact ⟨_, rfl, hR⟩
theorem en_call {prog : Program} {w : World} {A : Around} {E : Value → Shared → Prop} {s : Shared} {t : Addr} {its : Array Value} {Q : Value → Shared → Prop} (ht : s.heap.IsTuple t its)
    (h : ∀ h', IsEnum h' (s.heap.objs.size + 1) s.heap.objs.size 0 .none → h'.IsTupleIter s.heap.objs.size t 0 →
      (∀ b o, s.heap.get? b = some o → h'.get? b = some o) → Q (.ref (s.heap.objs.size + 1)) { s with heap := h' }) :
    wpAny (model prog w) A (call (.type "enumerate") [.ref t]) Q E s := by
  refine callType_new F.called_enumerate (by decide) (F.typeCall_enumerate_1 _) (F.newCall_enumerate_1 _)
    (fun obj => F.args_object_init_2 obj _) F.entry_enumerate_new (en_new t its) ⟨ht, ?_⟩
  have sz : (s.heap.push (oTI t)).objs.size = s.heap.objs.size + 1 := by
    rw [Heap.size_push]
  have en : IsEnum (enHeap s.heap t) (s.heap.objs.size + 1) s.heap.objs.size 0 .none := by
    have q := Heap.get?_push_size (s.heap.push (oTI t)) (o := oEn s.heap.objs.size) rfl
    rw [sz] at q
    exact q
  have ti : (enHeap s.heap t).IsTupleIter s.heap.objs.size t 0 :=
    ⟨oTI t, Heap.get?_push_of_some _ (Heap.get?_push_size _ rfl), rfl, rfl⟩
  show _ ∧ _
  rw [sz]
  exact ⟨⟨_, en, rfl⟩, h _ en ti fun b o q => Heap.get?_push_of_some _ (Heap.get?_push_of_some _ q)⟩
/-- the tuple at a, each item in a new pair with its place -/
def IteT (K : PySem.W.Frag) (a : Addr) : L2.It where
  go := fun i H => ∃ (xs : List V) (x : V), SqT K H a xs ∧ xs[i]? = some x
  yld := fun i H v H' => ∃ T x, v = .ref T ∧ H T = none ∧ H' = upd H T (.tup [.int (i : Nat), x]) ∧ ∀ xs, SqT K H a xs → xs[i]? = some x
  stop := fun i H => ∃ xs : List V, SqT K H a xs ∧ xs.length = i
theorem turn_enT {P : Program} {w : World} {K : PySem.W.Frag} {els : List Expr} {kk : Nat} {tp : Pos} (a e it : Addr) :
    Turn P w K (.Tuple els kk tp) (IteT K a) [e, it] e
      (fun i h => (∃ old, IsEnum h e it ((i : Nat) : Int) old) ∧ h.IsTupleIter it a i ∧ e ≠ it ∧ a ≠ it ∧ a ≠ e) where
  mem := List.mem_cons_self
  obj := fun i h st b hb => by
    obtain ⟨⟨old, he⟩, ⟨o, ho, hc, hd⟩, _⟩ := st
    rcases List.mem_cons.mp hb with z | z
    · rw [z]; exact ⟨_, he, fun v q => nomatch q⟩
    · rw [List.mem_singleton.mp z]
      exact ⟨o, ho, fun v q => by rw [hd] at q; cases q⟩
  keep := fun i h h' ⟨⟨old, he⟩, hi, ne⟩ k => ⟨⟨old, k e List.mem_cons_self _ he⟩, hi.at fun o q => k it (by simp) o q, ne⟩
  item := by
    intro X hP hw hK hc i pins s σ H E I hf st hgo
    subst hP hw hK
    obtain ⟨⟨old, he⟩, hit, ne, nai, nae⟩ := st
    obtain ⟨xs, x, hq, hx⟩ := hgo
    obtain ⟨its, rv, pt, hz⟩ := I.tuple hq
    obtain ⟨u, hu, ru⟩ := rv.get hx
    have le : e < s.heap.objs.size := Heap.lt_size he
    have li : it < s.heap.objs.size := by
      obtain ⟨_, q, _⟩ := hit
      exact Heap.lt_size q
    have D := Draws.tuple (prog := X.prog) (w := X.w) (A := X.A.in1) (I.ok.hd hc) it a nai its.toArray
    have hlt : i < its.toArray.size := by
      rw [List.size_toArray]
      exact (List.getElem?_eq_some_iff.mp hu).1
    refine wpAny_pyNext_enum_itemD D he ⟨hit, pt⟩ hlt ne (by simp [ne, Ne.symm nae]) fun y h' tk hy ho hst hT hsz hk => ?_
    have ey : y = u := by
      have q : its.toArray[i]? = some y := hy
      rw [List.getElem?_toArray, hu] at q
      exact (Option.some.inj q).symm
    subst ey
    refine ⟨_, rfl, wpAny_letOwnedTupleGo_enum (s := { s with heap := h', toks := tk + 1 }) ho fun h2 he2 sb => ?_⟩
    have hT2 : h2.get? s.heap.objs.size = some { cls := .type "tuple", data := .seq #[.int i tk, y] } := (sb.2 _ (Nat.ne_of_gt le)).trans hT
    have new : ObjOk X.prog X.w (upd H s.heap.objs.size (.tup [.int (i : Nat), x])) h2 s.heap.objs.size (.tup [.int (i : Nat), x]) :=
      ⟨by show 2 ≤ sizeLine; rw [sizeLine_eq]; decide, [.int i tk, y], .cons ⟨_, rfl⟩ (.cons ru .nil), _, hT2, rfl, _, rfl⟩
    have J : Inv X pins σ (upd H s.heap.objs.size (.tup [.int (i : Nat), x])) { s with heap := h2, toks := tk + 1 } :=
      I.turnedNew (ch := [e, it]) (fun b ob hb q => (sb.2 b (fun z => hb (by simp [z]))).trans
        (hk b ob (fun z => hb (by simp [z])) (fun z => hb (by simp [z])) q)) hf (Nat.le_refl _) new
    refine ⟨.ref s.heap.objs.size, _, J, rfl, ⟨_, x, rfl, I.hok.fresh (Nat.le_refl _), rfl, fun ys hy => ?_⟩, ⟨⟨y, ?_⟩, ?_, ne, nai, nae⟩, fun b hb => ?_⟩
    · rw [I.tuple_inj hy hq]
      exact hx
    · have e1 : ((i + 1 : Nat) : Int) = (i : Int) + 1 := by omega
      rw [e1]
      exact he2
    · exact hst.1.at fun o q => (sb.2 it (Ne.symm ne)).trans q
    · have lb : b < s.heap.objs.size := by
        rcases List.mem_cons.mp hb with z | z
        · rw [z]; exact le
        · rw [List.mem_singleton.mp z]; exact li
      rw [upd_ne (Nat.ne_of_lt lb)]
      exact (hf b hb).1
  done := by
    intro X hP hw hK hc i pins s σ H E I hf st hgo
    subst hP hw hK
    obtain ⟨⟨old, he⟩, hit, ne, nai, nae⟩ := st
    obtain ⟨xs, hq, hx⟩ := hgo
    obtain ⟨its, rv, pt, hz⟩ := I.tuple hq
    obtain ⟨f0, f1, f2, f3, f4, f5⟩ := hf it (by simp)
    have D := Draws.tuple (prog := X.prog) (w := X.w) (A := X.A.in1) (I.ok.hd hc) it a nai its.toArray
    have hn : i = its.toArray.size := by
      rw [List.size_toArray, ← rv.length, hx]
    subst hn
    exact wpAny_pyNext_enum_endD D he ⟨hit, pt⟩ fun h' eb => ⟨rfl, I.turned (t' := s.toks) (fun b o hb q => eb b o hb q) f0 f1 f3 f4 f5⟩
  self := fun A i s Q E ⟨⟨_, he⟩, _⟩ h => wpAny_pyIter_enum he h
def iEnT (K : PySem.W.Frag) (ta : TA) : TI := fun σ H R => ta σ H fun vs H1 => ∃ a xs, vs = [.ref a] ∧ SqT K H1 a xs ∧ R (IteT K a) H1
theorem pi_enT {X : Cx} {e : Expr} {ta : TA} {p pos tp : Pos} {els : List Expr} {kk : Nat} (hg : Gl X "enumerate") (hm : X.mg "enumerate" = none) (ha : PA X [e] ta) (hs : starEach [e] X.env = [(false, eval e X.env)]) :
    PI X (.Tuple els kk tp) (.Call (.Name "enumerate" p) [e] [] pos) (iEnT X.K ta) := by
  refine ⟨fun pins s σ H R I h => ?_⟩
  refine Call_ (ld_blt I hg hm boot_enumerate (callWith_type1 (thn (ha.run pos pins s σ H _ I h) fun us s1 q0 => ?_) hs rfl))
  obtain ⟨vs, H1, J, r1, a, xs, ex, hq, q⟩ := q0
  subst ex
  obtain ⟨u, rfl, rx⟩ := vals1 r1
  cases rx
  obtain ⟨its, rv, pt, hz⟩ := J.tuple hq
  have la : a < s1.heap.objs.size := pt.lt
  refine en_call (show s1.heap.IsTuple a its.toArray from pt) fun h' he hit hk => wpAny_pyIter_enum he ?_
  have J2 : Inv X pins σ H1 { s1 with heap := h' } := J.kept (t' := s1.toks) hk
  refine ⟨s1.heap.objs.size + 1, [s1.heap.objs.size + 1, s1.heap.objs.size], _, _, H1, rfl, J2, turn_enT a (s1.heap.objs.size + 1) s1.heap.objs.size,
    ⟨⟨.none, he⟩, hit, Nat.succ_ne_self _, Nat.ne_of_lt la, Nat.ne_of_lt (Nat.lt_succ_of_lt la)⟩, fun b hb => ?_, q⟩
  have le : s1.heap.objs.size ≤ b := by
    rcases List.mem_cons.mp hb with z | z
    · rw [z]; exact Nat.le_succ _
    · rw [List.mem_singleton.mp z]; exact Nat.le_refl _
  exact J.fpOk le (J.hok.fresh le)
end Dd

/-! Dd9: what is walked; targets. -/
namespace Dd
open L2 PyProof.Rows PySem.Spec PySem

/-- nobody's list -/
structure Out_ (g : G) (O : Addr → Prop) (H : Hp) (a : Addr) (vs : List V) : Prop where
  at_ : H a = some (.lst vs)
  nF : ¬ g.F a
  nM : a ∉ g.ms
  nO : ¬ O a
theorem Out_.keep {O O' : Addr → Prop} {g g' : G} {H H' : Hp} {a : Addr} {vs : List V} (q : Out_ g O H a vs) (k : Keep O g H O' g' H') : Out_ g' O' H' a vs := by
  refine ⟨k.st a _ q.at_ q.nM q.nO, fun f => ?_, fun m => ?_, fun o => ?_⟩
  · rcases k.ff a f with z | z | z
    · exact q.nF z
    · exact q.nO z
    · rw [q.at_] at z; cases z
  · obtain ⟨ext, em, fm⟩ := k.ms
    rw [em] at m
    rcases List.mem_append.mp m with m | m
    · exact q.nM m
    · rcases fm a m with z | z
      · exact absurd z (by rw [q.at_]; exact Option.some_ne_none _)
      · exact q.nO z
  · rcases k.ow a o with z | z
    · exact q.nO z
    · rw [q.at_] at z; cases z
/-- the address of the list that a walk hides -/
def hidA (it : It) (σ : L2.St) (b : Addr) : Prop := match it.hid with
  | some i => σ[i]? = some (some (.ref b))
  | none => False
/-- .. and what is known of it -/
def HidOk (K : PySem.W.Frag) (en : Ent) (it : It) (s0 : Sta) (σ : L2.St) (s : Sta) (g : G) (H : Hp) : Prop := ∀ i, it.hid = some i → ∃ xs a vs, s0.sl[i]? = some (some (.lst xs, true)) ∧ σ[i]? = some (some (.ref a)) ∧ Out_ g (Own s.sl σ) H a vs ∧ xs.length ≤ sizeLine ∧ Reps K g H xs vs ∧ en.H0 a = none
/-- a walk over ds that stays what it is -/
def WalkD (K : PySem.W.Frag) (g : G) (H : Hp) (J : L2.It) (ds : List D) (Hd : Addr → Prop) : Prop := ds.length ≤ sizeLine ∧ ∃ St : G → Hp → Prop, St g H ∧
  (∀ O g H O' g' H', Keep O g H O' g' H' → Apart O g H → (∀ b, Hd b → ¬ O b) → St g H → St g' H') ∧
  (∀ i g H, i < ds.length → St g H → J.go i H) ∧ (∀ g H, St g H → J.stop ds.length H) ∧
  ∀ i g H x H', St g H → J.yld i H x H' → (∀ a o, H a = some o → H' a = some o) ∧ ∀ d, ds[i]? = some d → ∀ O, Apart O g H → Rep K g H' d x
def tIt (K : PySem.W.Frag) (en : Ent) (W : WX) (it : It) : TI := fun σ H R => ∃ g s, SR K en g s σ H ∧
  post K en W σ (Own s.sl σ) g H (evi it s) fun ds s' g' H' => ∀ J, WalkD K g' H' J ds (hidA it σ) → HidOk K en it s σ s' g' H' → R J H'
section
variable {K : PySem.W.Frag} {g : G} {H : Hp}
theorem FzL.inj {K : PySem.W.Frag} {g : G} {H : Hp} {a : Addr} {vs : List V} (h : FzL K g H a vs) : ∃ xs, SqL K H a xs := ⟨vs, h.sq⟩
theorem get_lt {α : Type} {xs : List α} {i : Nat} (h : i < xs.length) : ∃ x, xs[i]? = some x := ⟨xs[i], by simp [h]⟩
theorem get_len {α : Type} {xs : List α} {i : Nat} {x : α} (h : xs[i]? = some x) : i < xs.length := (List.getElem?_eq_some_iff.mp h).1
theorem walkD_lst {Hd : Addr → Prop} {a : Addr} {vs : List V} {ds : List D} (z : ds.length ≤ sizeLine) (h : FzL K g H a vs) (t : Reps K g H ds vs) : WalkD K g H (Itl K a) ds Hd := by
  refine ⟨z, fun g H => FzL K g H a vs ∧ Reps K g H ds vs, ⟨h, t⟩, fun O g H O' g' H' k p _ st => ⟨k.lst p st.1, st.2.keep k p⟩, fun i g H hi st => ?_, fun g H st => ?_, fun i g H x H' st y => ?_⟩
  · rw [st.2.length] at hi
    obtain ⟨x, hx⟩ := get_lt hi
    exact ⟨vs, x, st.1.sq, hx⟩
  · exact ⟨vs, st.1.sq, by rw [st.2.length]; exact Nat.le_refl _⟩
  · obtain ⟨e, y⟩ := y
    rw [e]
    refine ⟨fun _ _ z => z, fun d hd O p => ?_⟩
    obtain ⟨v, e1, e2⟩ := st.2.get hd
    rw [y vs st.1.sq] at e1
    cases e1
    exact e2
theorem walkD_tup {Hd : Addr → Prop} {a : Addr} {vs : List V} {ds : List D} (z : ds.length ≤ sizeLine) (h : SqT K H a vs) (t : Reps K g H ds vs) : WalkD K g H (Itt K a) ds Hd := by
  refine ⟨z, fun g H => SqT K H a vs ∧ Reps K g H ds vs, ⟨h, t⟩, fun O g H O' g' H' k p _ st => ⟨k.tup p st.1, st.2.keep k p⟩, fun i g H hi st => ?_, fun g H st => ?_, fun i g H x H' st y => ?_⟩
  · rw [st.2.length] at hi
    obtain ⟨x, hx⟩ := get_lt hi
    exact ⟨vs, x, st.1, hx⟩
  · exact ⟨vs, st.1, by rw [st.2.length]; exact Nat.le_refl _⟩
  · obtain ⟨e, y⟩ := y
    rw [e]
    refine ⟨fun _ _ z => z, fun d hd O p => ?_⟩
    obtain ⟨v, e1, e2⟩ := st.2.get hd
    rw [y vs st.1] at e1
    cases e1
    exact e2
theorem rngL_get {lo : Int} {n i : Nat} {d : D} (h : (rngL lo n)[i]? = some d) : d = .int (lo + (i : Nat)) := by
  unfold rngL at h
  rw [List.getElem?_map] at h
  cases q : (List.range n)[i]? with
  | none => rw [q] at h; cases h
  | some j =>
    rw [q] at h
    obtain ⟨hl, e⟩ := List.getElem?_eq_some_iff.mp q
    rw [List.getElem_range] at e
    subst e
    cases h
    rfl
theorem rngL_len {lo : Int} {n : Nat} : (rngL lo n).length = n := by unfold rngL; simp
theorem walkD_rng {Hd : Addr → Prop} {lo : Int} {n : Nat} (z : n ≤ sizeLine) : WalkD K g H (Itr lo n) (rngL lo n) Hd := by
  refine ⟨by rw [rngL_len]; exact z, fun _ _ => True, trivial, fun _ _ _ _ _ _ _ _ _ _ => trivial, fun i g H hi _ => ?_, fun g H _ => ?_, fun i g H x H' _ y => ?_⟩
  · rw [rngL_len] at hi; exact hi
  · rw [rngL_len]; exact Nat.le_refl _
  · obtain ⟨e, y⟩ := y
    rw [e]
    refine ⟨fun _ _ z => z, fun d hd O p => ?_⟩
    rw [rngL_get hd, y]
    exact .int _
theorem enumD_len : ∀ (i : Nat) (xs : List D), (enumD i xs).length = xs.length
  | _, [] => rfl
  | i, _ :: xs => by unfold enumD; simp [enumD_len (i + 1) xs]
theorem enumD_get : ∀ {k : Nat} {xs : List D} {i : Nat} {d : D}, (enumD k xs)[i]? = some d → ∃ x, xs[i]? = some x ∧ d = .tup [.int ((k + i : Nat) : Int), x]
  | _, [], _, _, h => by simp [enumD] at h
  | k, x :: xs, 0, d, h => by
    simp [enumD] at h
    exact ⟨x, rfl, by rw [← h]; simp⟩
  | k, x :: xs, i + 1, d, h => by
    have h' : (enumD (k + 1) xs)[i]? = some d := by simpa [enumD] using h
    obtain ⟨y, h1, h2⟩ := enumD_get h'
    refine ⟨y, by simpa using h1, ?_⟩
    rw [h2]
    have e : k + 1 + i = k + (i + 1) := by omega
    rw [e]
theorem two_line : ([D.non, D.non] : List D).length ≤ sizeLine := by rw [sizeLine_eq]; decide
theorem pairRep {O : Addr → Prop} {T : Addr} {d e : D} {v w : V} (p : Apart O g H) (hT : H T = none) (h1 : Rep K g H d v) (h2 : Rep K g H e w) : Rep K g (upd H T (.tup [v, w])) (.tup [d, e]) (.ref T) :=
  .tup (.inl (.inl upd_same)) two_line (.cons (h1.keep (Keep.same (O := O) (same_upd hT)) p) (.cons (h2.keep (Keep.same (O := O) (same_upd hT)) p) .nil))
theorem walkD_enL {Hd : Addr → Prop} {a : Addr} {vs : List V} {ds : List D} (z : ds.length ≤ sizeLine) (h : FzL K g H a vs) (t : Reps K g H ds vs) : WalkD K g H (Ite K a) (enumD 0 ds) Hd := by
  refine ⟨by rw [enumD_len]; exact z, fun g H => FzL K g H a vs ∧ Reps K g H ds vs, ⟨h, t⟩, fun O g H O' g' H' k p _ st => ⟨k.lst p st.1, st.2.keep k p⟩, fun i g H hi st => ?_, fun g H st => ?_, fun i g H x H' st y => ?_⟩
  · rw [enumD_len, st.2.length] at hi
    obtain ⟨x, hx⟩ := get_lt hi
    exact ⟨vs, x, st.1.sq, hx⟩
  · exact ⟨vs, st.1.sq, by rw [enumD_len, st.2.length]; exact Nat.le_refl _⟩
  · obtain ⟨T, v, e1, e2, e3, y⟩ := y
    subst e1 e3
    refine ⟨same_upd e2, fun d hd O p => ?_⟩
    obtain ⟨z, h1, h2⟩ := enumD_get hd
    obtain ⟨w, h3, h4⟩ := st.2.get h1
    rw [y vs st.1.sq] at h3
    cases h3
    rw [h2, Nat.zero_add]
    exact pairRep p e2 (.int _) h4
theorem walkD_enT {Hd : Addr → Prop} {a : Addr} {vs : List V} {ds : List D} (z : ds.length ≤ sizeLine) (h : SqT K H a vs) (t : Reps K g H ds vs) : WalkD K g H (IteT K a) (enumD 0 ds) Hd := by
  refine ⟨by rw [enumD_len]; exact z, fun g H => SqT K H a vs ∧ Reps K g H ds vs, ⟨h, t⟩, fun O g H O' g' H' k p _ st => ⟨k.tup p st.1, st.2.keep k p⟩, fun i g H hi st => ?_, fun g H st => ?_, fun i g H x H' st y => ?_⟩
  · rw [enumD_len, st.2.length] at hi
    obtain ⟨x, hx⟩ := get_lt hi
    exact ⟨vs, x, st.1, hx⟩
  · exact ⟨vs, st.1, by rw [enumD_len, st.2.length]⟩
  · obtain ⟨T, v, e1, e2, e3, y⟩ := y
    subst e1 e3
    refine ⟨same_upd e2, fun d hd O p => ?_⟩
    obtain ⟨z, h1, h2⟩ := enumD_get hd
    obtain ⟨w, h3, h4⟩ := st.2.get h1
    rw [y vs st.1] at h3
    cases h3
    rw [h2, Nat.zero_add]
    exact pairRep p e2 (.int _) h4
theorem zipD_len : ∀ (xs ys : List D), (zipD xs ys).length = min xs.length ys.length
  | [], ys => by simp [zipD]
  | _ :: _, [] => by simp [zipD]
  | x :: xs, y :: ys => by unfold zipD; simp only [List.length_cons, zipD_len xs ys]; omega
theorem zipD_get : ∀ {xs ys : List D} {i : Nat} {d : D}, (zipD xs ys)[i]? = some d → ∃ x y, xs[i]? = some x ∧ ys[i]? = some y ∧ d = .tup [x, y]
  | [], ys, _, _, h => by simp [zipD] at h
  | _ :: _, [], _, _, h => by simp [zipD] at h
  | x :: xs, y :: ys, 0, d, h => by
    simp [zipD] at h
    exact ⟨x, y, rfl, rfl, h.symm⟩
  | x :: xs, y :: ys, i + 1, d, h => by
    have h' : (zipD xs ys)[i]? = some d := by simpa [zipD] using h
    obtain ⟨u, v, h1, h2, h3⟩ := zipD_get h'
    exact ⟨u, v, by simpa using h1, by simpa using h2, h3⟩
theorem walkD_zipL {Hd : Addr → Prop} {a b : Addr} {vs ws : List V} {ds es : List D} (z : ds.length ≤ sizeLine) (h : FzL K g H a vs) (t : Reps K g H ds vs) (h' : FzL K g H b ws) (t' : Reps K g H es ws) : WalkD K g H (Itz K a b) (zipD ds es) Hd := by
  refine ⟨by rw [zipD_len]; exact Nat.le_trans (Nat.min_le_left _ _) z, fun g H => (FzL K g H a vs ∧ Reps K g H ds vs) ∧ FzL K g H b ws ∧ Reps K g H es ws, ⟨⟨h, t⟩, h', t'⟩, fun O g H O' g' H' k p _ st => ⟨⟨k.lst p st.1.1, st.1.2.keep k p⟩, k.lst p st.2.1, st.2.2.keep k p⟩, fun i g H hi st => ?_, fun g H st => ?_, fun i g H x H' st y => ?_⟩
  · rw [zipD_len, st.1.2.length, st.2.2.length] at hi
    obtain ⟨x, hx⟩ := get_lt (xs := vs) (i := i) (by omega)
    obtain ⟨y, hy⟩ := get_lt (xs := ws) (i := i) (by omega)
    exact ⟨vs, ws, x, y, st.1.1.sq, st.2.1.sq, hx, hy⟩
  · refine ⟨vs, ws, st.1.1.sq, st.2.1.sq, ?_⟩
    rw [zipD_len, st.1.2.length, st.2.2.length]
    omega
  · obtain ⟨T, v, w, e1, e2, e3, y1, y2⟩ := y
    subst e1 e3
    refine ⟨same_upd e2, fun d hd O p => ?_⟩
    obtain ⟨z, z', h1, h2, h3⟩ := zipD_get hd
    obtain ⟨u, h4, h5⟩ := st.1.2.get h1
    obtain ⟨u', h6, h7⟩ := st.2.2.get h2
    rw [y1 vs st.1.1.sq] at h4
    rw [y2 ws st.2.1.sq] at h6
    cases h4
    cases h6
    rw [h3]
    exact pairRep p e2 h5 h7
theorem walkD_zipT {Hd : Addr → Prop} {a b : Addr} {vs ws : List V} {ds es : List D} (z : ds.length ≤ sizeLine) (h : SqT K H a vs) (t : Reps K g H ds vs) (h' : SqT K H b ws) (t' : Reps K g H es ws) : WalkD K g H (RZ.ItzT K a b) (zipD ds es) Hd := by
  refine ⟨by rw [zipD_len]; exact Nat.le_trans (Nat.min_le_left _ _) z, fun g H => (SqT K H a vs ∧ Reps K g H ds vs) ∧ SqT K H b ws ∧ Reps K g H es ws, ⟨⟨h, t⟩, h', t'⟩, fun O g H O' g' H' k p _ st => ⟨⟨k.tup p st.1.1, st.1.2.keep k p⟩, k.tup p st.2.1, st.2.2.keep k p⟩, fun i g H hi st => ?_, fun g H st => ?_, fun i g H x H' st y => ?_⟩
  · rw [zipD_len, st.1.2.length, st.2.2.length] at hi
    obtain ⟨x, hx⟩ := get_lt (xs := vs) (i := i) (by omega)
    obtain ⟨y, hy⟩ := get_lt (xs := ws) (i := i) (by omega)
    exact ⟨vs, ws, x, y, st.1.1, st.2.1, hx, hy⟩
  · refine ⟨vs, ws, st.1.1, st.2.1, ?_⟩
    rw [zipD_len, st.1.2.length, st.2.2.length]
    omega
  · obtain ⟨T, v, w, e1, e2, e3, y1, y2⟩ := y
    subst e1 e3
    refine ⟨same_upd e2, fun d hd O p => ?_⟩
    obtain ⟨z, z', h1, h2, h3⟩ := zipD_get hd
    obtain ⟨u, h4, h5⟩ := st.1.2.get h1
    obtain ⟨u', h6, h7⟩ := st.2.2.get h2
    rw [y1 vs st.1.1] at h4
    rw [y2 ws st.2.1] at h6
    cases h4
    cases h6
    rw [h3]
    exact pairRep p e2 h5 h7
end
section
variable {X : Cx} {en : Ent} {W : WX} {pos tp np : Pos} {tg : Expr}
/-- a term's value by its two forms -/
theorem pi_of {c : C} {e : Expr} (h : PE X e (tSim X.K en W c)) : PI X tg e (tIt X.K en W (.of c)) := by
  refine ⟨fun pins s σ H R I hw => ?_⟩
  obtain ⟨g, st, r, q⟩ := hw
  have q : post X.K en W σ (Own st.sl σ) g H ((ev c st).bind fun d s => match itemsOf d.1 with
    | some ds => Out.ok ds s
    | none => Out.stuck) _ := q
  cases hc : ev c st with
  | stuck => rw [hc] at q; exact q.elim
  | exc x s' =>
    rw [hc] at q
    refine (pi_list h).run pins s σ H R I ?_
    refine (⟨g, st, r, ?_⟩ : tSim X.K en W c σ H _)
    rw [hc]
    exact q
  | ok d s' =>
    obtain ⟨d, o⟩ := d
    rw [hc] at q
    cases d with
    | lst xs =>
      refine (pi_list h).run pins s σ H R I ?_
      refine tSim_F (c := c) ⟨g, st, r, ?_⟩
      rw [hc]
      intro g' H' r' k v rep
      cases rep with
      | lst e1 e2 z t =>
        exact ⟨_, rfl, ⟨_, .inl (.inl e1)⟩, q g' H' r' k _ (walkD_lst z (.inl ⟨e1, e2⟩) t) (fun _ z => nomatch z)⟩
    | tup xs =>
      refine (pi_tup h).run pins s σ H R I ?_
      refine tSim_F (c := c) ⟨g, st, r, ?_⟩
      rw [hc]
      intro g' H' r' k v rep
      cases rep with
      | tup e1 z t => exact ⟨_, rfl, ⟨_, e1⟩, q g' H' r' k _ (walkD_tup z e1 t) (fun _ z => nomatch z)⟩
    | non => exact q.elim
    | bl b => exact q.elim
    | int i => exact q.elim
    | str z => exact q.elim
    | dct ks vs => exact q.elim
    | ref l => exact q.elim
    | scr ns => exact q.elim
theorem okRng_of {a b : Int} (h : okRng a b = true) : (-(2 ^ 62) ≤ a ∧ a < 2 ^ 62) ∧ -(2 ^ 62) ≤ b ∧ b < 2 ^ 62 := by
  unfold okRng at h
  have h := of_decide_eq_true h
  omega
theorem okRng_sz {a b : Int} (h : okRng a b = true) : (b - a).toNat ≤ sizeLine := by
  unfold okRng at h
  have h := of_decide_eq_true h
  rw [sizeLine_eq]
  omega
theorem pi_rng1 {c : C} {e : Expr} (hg : Gl X "range") (hm : X.mg "range" = none) (h : PE X e (tSim X.K en W c)) (hs : starEach [e] X.env = [(false, eval e X.env)]) : PI X tg (.Call (.Name "range" np) [e] [] pos) (tIt X.K en W (.rng1 c)) := by
  refine ⟨fun pins s σ H R I hw => (pi_range1 hg hm (pa_cons h pa_nil (by rw [hs]; rfl)) hs).run pins s σ H R I ?_⟩
  obtain ⟨g, st, r, q⟩ := hw
  have q : post X.K en W σ (Own st.sl σ) g H ((ev c st).bind fun d s => match d.1 with
    | .int n => if okRng 0 n = true then Out.ok (rngL 0 n.toNat) s else Out.stuck
    | _ => Out.stuck) _ := q
  refine (⟨g, st, r, post_imp (post_bind q) fun d s' g' H' e1 r' k q v rep => ?_⟩ : tSim X.K en W c σ H _)
  obtain ⟨d, o⟩ := d
  cases d with
  | int i =>
    have q : post X.K en W σ (Own s'.sl σ) g' H' (if okRng 0 i = true then Out.ok (rngL 0 i.toNat) s' else Out.stuck) _ := q
    by_cases ho : okRng 0 i = true
    · rw [if_pos ho] at q
      have b := (okRng_of ho).2
      rw [rep.int_]
      exact ⟨i, rfl, b.1, b.2, q g' H' r' Keep.refl _ (walkD_rng (by have w := okRng_sz ho; rw [Int.sub_zero] at w; exact w)) (fun _ z => nomatch z)⟩
    · rw [if_neg ho] at q; exact q.elim
  | non => exact q.elim
  | bl i => exact q.elim
  | str z => exact q.elim
  | tup xs => exact q.elim
  | lst xs => exact q.elim
  | dct ks vs => exact q.elim
  | ref l => exact q.elim
  | scr ns => exact q.elim
theorem pi_rng2 {a b : C} {e f : Expr} (hg : Gl X "range") (hm : X.mg "range" = none) (ha : PE X e (tSim X.K en W a)) (hb : PE X f (tSim X.K en W b)) (hs : starEach [e, f] X.env = [(false, eval e X.env), (false, eval f X.env)]) (hs2 : starEach [f] X.env = [(false, eval f X.env)]) :
    PI X tg (.Call (.Name "range" np) [e, f] [] pos) (tIt X.K en W (.rng2 a b)) := by
  refine ⟨fun pins s σ H R I hw => (pi_range2 hg hm (pa_cons ha (pa_cons hb pa_nil (by rw [hs2]; rfl)) (by rw [hs, hs2])) hs hs2).run pins s σ H R I ?_⟩
  obtain ⟨g, st, r, q⟩ := hw
  have q : post X.K en W σ (Own st.sl σ) g H ((ev a st).bind fun d s => (ev b s).bind fun e s => match d.1, e.1 with
    | .int m, .int n => if okRng m n = true then Out.ok (rngL m (n - m).toNat) s else Out.stuck
    | _, _ => Out.stuck) _ := q
  refine (⟨g, st, r, post_imp (post_bind q) fun d s1 g1 H1 e1 r1 k1 q v rep => ?_⟩ : tSim X.K en W a σ H _)
  refine (⟨g1, s1, r1, post_imp (post_bind q) fun d2 s2 g2 H2 e2 r2 k2 q w rep2 => ?_⟩ : tSim X.K en W b σ H1 _)
  obtain ⟨d, o⟩ := d
  obtain ⟨d2, o2⟩ := d2
  cases d with
  | int m =>
    cases d2 with
    | int n =>
      have q : post X.K en W σ (Own s2.sl σ) g2 H2 (if okRng m n = true then Out.ok (rngL m (n - m).toNat) s2 else Out.stuck) _ := q
      by_cases ho : okRng m n = true
      · rw [if_pos ho] at q
        have z := okRng_of ho
        rw [rep.int_, rep2.int_]
        exact ⟨m, n, rfl, ⟨z.1.1, z.1.2, z.2.1, z.2.2⟩, q g2 H2 r2 Keep.refl _ (walkD_rng (okRng_sz ho)) (fun _ z => nomatch z)⟩
      · rw [if_neg ho] at q; exact q.elim
    | _ => exact q.elim
  | _ => exact q.elim
theorem pi_en {c : C} {e : Expr} {els : List Expr} {kk : Nat} (hg : Gl X "enumerate") (hm : X.mg "enumerate" = none) (h : PE X e (tSim X.K en W c)) (hs : starEach [e] X.env = [(false, eval e X.env)]) : PI X (.Tuple els kk tp) (.Call (.Name "enumerate" np) [e] [] pos) (tIt X.K en W (.enum c)) := by
  have pa := pa_cons h pa_nil (by rw [hs]; rfl)
  refine ⟨fun pins s σ H R I hw => ?_⟩
  obtain ⟨g, st, r, q⟩ := hw
  have q : post X.K en W σ (Own st.sl σ) g H ((ev c st).bind fun d s => match d.1 with
    | .lst ds => Out.ok (enumD 0 ds) s
    | .tup ds => Out.ok (enumD 0 ds) s
    | _ => Out.stuck) _ := q
  cases hc : ev c st with
  | stuck => rw [hc] at q; exact q.elim
  | exc x s' =>
    rw [hc] at q
    refine (pi_enum hg hm pa hs).run pins s σ H R I ?_
    refine (⟨g, st, r, ?_⟩ : tSim X.K en W c σ H _)
    rw [hc]
    exact q
  | ok d s' =>
    obtain ⟨d, o⟩ := d
    rw [hc] at q
    cases d with
    | lst xs =>
      refine (pi_enum hg hm pa hs).run pins s σ H R I ?_
      refine tSim_F (c := c) ⟨g, st, r, ?_⟩
      rw [hc]
      intro g' H' r' k v rep
      cases rep with
      | lst e1 e2 z t =>
        exact ⟨_, _, rfl, .inl (.inl e1), q g' H' r' k _ (walkD_enL z (.inl ⟨e1, e2⟩) t) (fun _ z => nomatch z)⟩
    | tup xs =>
      refine (pi_enT hg hm pa hs).run pins s σ H R I ?_
      refine tSim_F (c := c) ⟨g, st, r, ?_⟩
      rw [hc]
      intro g' H' r' k v rep
      cases rep with
      | tup e1 z t => exact ⟨_, _, rfl, e1, q g' H' r' k _ (walkD_enT z e1 t) (fun _ z => nomatch z)⟩
    | non => exact q.elim
    | bl b => exact q.elim
    | int i => exact q.elim
    | str z => exact q.elim
    | dct ks vs => exact q.elim
    | ref l => exact q.elim
    | scr ns => exact q.elim
theorem pi_zp {a b : C} {e f : Expr} {els : List Expr} {kk : Nat} (hg : Gl X "zip") (hm : X.mg "zip" = none) (ha : PE X e (tSim X.K en W a)) (hb : PE X f (tSim X.K en W b)) (hs : starEach [e, f] X.env = (false, eval e X.env) :: starEach [f] X.env) (hs2 : starEach [f] X.env = [(false, eval f X.env)]) :
    PI X (.Tuple els kk tp) (.Call (.Name "zip" np) [e, f] [] pos) (tIt X.K en W (.zip a b)) := by
  refine ⟨fun pins s σ H R I hw => (RZ.pi_zipA hg hm (pa_cons ha (pa_cons hb pa_nil (by rw [hs2]; rfl)) hs) hs (by rw [hs2]; rfl)).run pins s σ H R I ?_⟩
  obtain ⟨g, st, r, q⟩ := hw
  have q : post X.K en W σ (Own st.sl σ) g H ((ev a st).bind fun d s => (ev b s).bind fun e s => match d.1, e.1 with
    | .lst xs, .lst ys => Out.ok (zipD xs ys) s
    | .tup xs, .tup ys => Out.ok (zipD xs ys) s
    | _, _ => Out.stuck) _ := q
  refine tSim_F (c := a) ⟨g, st, r, post_imp (post_bind q) fun d s1 g1 H1 e1 r1 k1 q v rep => ?_⟩
  refine tSim_F (c := b) ⟨g1, s1, r1, post_imp (post_bind q) fun d2 s2 g2 H2 e2 r2 k2 q w rep2 => ?_⟩
  have rep := rep.keep k2 r1.apart
  obtain ⟨d, o⟩ := d
  obtain ⟨d2, o2⟩ := d2
  cases d with
  | lst xs =>
    cases d2 with
    | lst ys =>
      cases rep with
      | lst f1 f2 z t =>
        cases rep2 with
        | lst f3 f4 z' t' => exact ⟨_, _, _, _, rfl, .inl ⟨.inl (.inl f1), .inl (.inl f3), q g2 H2 r2 Keep.refl _ (walkD_zipL z (.inl ⟨f1, f2⟩) t (.inl ⟨f3, f4⟩) t') (fun _ z => nomatch z)⟩⟩
    | _ => exact q.elim
  | tup xs =>
    cases d2 with
    | tup ys =>
      cases rep with
      | tup f1 z t =>
        cases rep2 with
        | tup f3 z' t' => exact ⟨_, _, _, _, rfl, .inr ⟨f1, f3, q g2 H2 r2 Keep.refl _ (walkD_zipT z f1 t f3 t') (fun _ z => nomatch z)⟩⟩
    | _ => exact q.elim
  | _ => exact q.elim
/-! a slot's own list, hidden while it is walked -/
theorem SR.forget {K : PySem.W.Frag} {en : Ent} {g : G} {s : Sta} {σ : L2.St} {H : Hp} (r : SR K en g s σ H) (i : Nat) :
    SR K en g { s with sl := s.sl.set i none } σ H ∧ ∀ j a, OwnAt (s.sl.set i none) σ j a → OwnAt s.sl σ j a ∧ j ≠ i := by
  have oa : ∀ j a, OwnAt (s.sl.set i none) σ j a → OwnAt s.sl σ j a ∧ j ≠ i := by
    rintro j a ⟨d, e1, e2⟩
    rcases set_get e1 with ⟨rfl, ey⟩ | ⟨hj, ey⟩
    · cases ey
    · exact ⟨⟨d, ey, e2⟩, hj⟩
  have sub : ∀ a, Own (s.sl.set i none) σ a → Own s.sl σ a := fun a ⟨j, q⟩ => ⟨j, (oa j a q).1⟩
  refine ⟨⟨r.keep.less sub, ⟨by simp [r.len], by simp [r.nn]⟩, fun j d o h => ?_, fun j j' a h1 h2 => r.inj j j' a (oa j a h1).1 (oa j' a h2).1, r.cells, fun a h => r.ownF a (sub a h)⟩, oa⟩
  rcases set_get h with ⟨rfl, ey⟩ | ⟨hj, ey⟩
  · cases ey
  · exact r.slot j d o ey
theorem SR.hide {K : PySem.W.Frag} {en : Ent} {g : G} {s : Sta} {σ : L2.St} {H : Hp} (r : SR K en g s σ H) {i : Nat} {xs : List D} (hs : s.sl[i]? = some (some (.lst xs, true))) :
    ∃ a vs, σ[i]? = some (some (.ref a)) ∧ SR K en g { s with sl := s.sl.set i none } σ H ∧ Keep (Own s.sl σ) g H (Own (s.sl.set i none) σ) g H ∧ Out_ g (Own (s.sl.set i none) σ) H a vs ∧ xs.length ≤ sizeLine ∧ Reps K g H xs vs ∧ en.H0 a = none := by
  obtain ⟨v, e1, us, a, vs, e2, e3, e4, z, t⟩ := r.slot i _ true hs
  cases e2
  subst e3
  have ow : OwnAt s.sl σ i a := ⟨_, hs, e1⟩
  obtain ⟨r2, oa⟩ := r.forget i
  have f := r.ownF a ⟨i, ow⟩
  refine ⟨a, vs, e1, r2, Keep.refl.less fun b ⟨j, q⟩ => ⟨j, (oa j b q).1⟩, ⟨e4, f.1, f.2, fun ⟨j, q⟩ => ?_⟩, z, t, ?_⟩
  · obtain ⟨q1, q2⟩ := oa j a q
    exact q2 (r.inj j i a q1 ow)
  · exact (r.keep.ow a ⟨i, ow⟩).elim False.elim fun z => z
theorem pi_ofO {i : Nat} {x : Str} (hN : X.N[i]? = some x) (hv : Vis X.env.scope x) (hd : (x == ("__debug__" : Str)) = false) (hcd : (x == ("__classdict__" : Str)) = false) : PI X tg (.Name x pos) (tIt X.K en W (.ofO i)) := by
  refine ⟨fun pins s σ H R I hw => (pi_list (pe_var hN hv hd hcd)).run pins s σ H R I ?_⟩
  obtain ⟨g, st, r, q⟩ := hw
  have q : post X.K en W σ (Own st.sl σ) g H (match st.sl[i]? with
    | some (some (.lst xs, true)) => Out.ok xs { st with sl := st.sl.set i none }
    | _ => Out.stuck) _ := q
  split at q
  · rename_i xs hs
    obtain ⟨a, vs, e1, r2, k2, ou, z, t, h0⟩ := r.hide hs
    refine ⟨.ref a, e1, a, rfl, ⟨vs, .inl (.inl ou.at_)⟩, q g H r2 k2 _ ⟨z, fun g H => (H a = some (.lst vs) ∧ ¬ g.F a ∧ a ∉ g.ms) ∧ Reps X.K g H xs vs, ⟨⟨ou.at_, ou.nF, ou.nM⟩, t⟩, fun O g H O' g' H' k p nh st => ?_, fun j g H hj st => ?_, fun g H st => ?_, fun j g H y H' st w => ?_⟩ fun j hj => ?_⟩
    · have o2 := Out_.keep ⟨st.1.1, st.1.2.1, st.1.2.2, nh a e1⟩ k
      exact ⟨⟨o2.at_, o2.nF, o2.nM⟩, st.2.keep k p⟩
    · rw [st.2.length] at hj
      obtain ⟨x, hx⟩ := get_lt hj
      exact ⟨vs, x, .inl (.inl st.1.1), hx⟩
    · exact ⟨vs, .inl (.inl st.1.1), by rw [st.2.length]; exact Nat.le_refl _⟩
    · obtain ⟨e, w⟩ := w
      rw [e]
      refine ⟨fun _ _ z => z, fun d hd O p => ?_⟩
      obtain ⟨v, e1, e2⟩ := st.2.get hd
      rw [w vs (.inl (.inl st.1.1))] at e1
      cases e1
      exact e2
    · cases hj
      exact ⟨xs, a, vs, hs, e1, ou, z, t, h0⟩
  · exact q.elim
theorem pi_enumO {i : Nat} {x : Str} {els : List Expr} {kk : Nat} {xp : Pos} (hg : Gl X "enumerate") (hm : X.mg "enumerate" = none) (hN : X.N[i]? = some x) (hv : Vis X.env.scope x) (hd : (x == ("__debug__" : Str)) = false) (hcd : (x == ("__classdict__" : Str)) = false) :
    PI X (.Tuple els kk tp) (.Call (.Name "enumerate" np) [.Name x xp] [] pos) (tIt X.K en W (.enumO i)) := by
  refine ⟨fun pins s σ H R I hw => (pi_enum hg hm (pa_cons (pe_var hN hv hd hcd) pa_nil rfl) rfl).run pins s σ H R I ?_⟩
  obtain ⟨g, st, r, q⟩ := hw
  have q : post X.K en W σ (Own st.sl σ) g H (match st.sl[i]? with
    | some (some (.lst xs, true)) => Out.ok (enumD 0 xs) { st with sl := st.sl.set i none }
    | _ => Out.stuck) _ := q
  split at q
  · rename_i xs hs
    obtain ⟨a, vs, e1, r2, k2, ou, z, t, h0⟩ := r.hide hs
    refine ⟨.ref a, e1, _, _, rfl, .inl (.inl ou.at_), q g H r2 k2 _ ⟨by rw [enumD_len]; exact z, fun g H => (H a = some (.lst vs) ∧ ¬ g.F a ∧ a ∉ g.ms) ∧ Reps X.K g H xs vs, ⟨⟨ou.at_, ou.nF, ou.nM⟩, t⟩, fun O g H O' g' H' k p nh st => ?_, fun j g H hj st => ?_, fun g H st => ?_, fun j g H y H' st w => ?_⟩ fun j hj => ?_⟩
    · have o2 := Out_.keep ⟨st.1.1, st.1.2.1, st.1.2.2, nh a e1⟩ k
      exact ⟨⟨o2.at_, o2.nF, o2.nM⟩, st.2.keep k p⟩
    · rw [enumD_len, st.2.length] at hj
      obtain ⟨x, hx⟩ := get_lt hj
      exact ⟨vs, x, .inl (.inl st.1.1), hx⟩
    · exact ⟨vs, .inl (.inl st.1.1), by rw [enumD_len, st.2.length]; exact Nat.le_refl _⟩
    · obtain ⟨T, v, e1, e2, e3, w⟩ := w
      subst e1 e3
      refine ⟨same_upd e2, fun d hd O p => ?_⟩
      obtain ⟨z, h1, h2⟩ := enumD_get hd
      obtain ⟨u, h3, h4⟩ := st.2.get h1
      rw [w vs (.inl (.inl st.1.1))] at h3
      cases h3
      rw [h2, Nat.zero_add]
      exact pairRep p e2 (.int _) h4
    · cases hj
      exact ⟨xs, a, vs, hs, e1, ou, z, t, h0⟩
  · exact q.elim
end
end Dd

/-! Dd10: changes of a list by its methods. -/
namespace Dd
open L2 PyProof.Rows PySem.Spec PySem

section
variable {K : PySem.W.Frag} {en : Ent} {W : WX} {σ : L2.St} {g : G} {H : Hp}
theorem isL_of {s : Sta} {o : Opd} {v : V} (r : SR K en g s σ H) (q : OpdRep K g H σ o v) (h : o.isL s = true) : ∃ a vs, v = .ref a ∧ H a = some (.lst vs) := by
  unfold Opd.isL at h
  split at h
  · rename_i xs hx
    obtain ⟨a, vs, e, q, _⟩ := rd_of r q hx
    exact ⟨a, vs, e, q⟩
  · cases h
/-- a change of a list, at its heap -/
theorem chg_as {s : Sta} {o : Opd} {v : V} {f : List D → Option (List D × D)} {d : D} {s2 : Sta} (r : SR K en g s σ H) (q : OpdRep K g H σ o v) (h : chg s o f = .ok d s2) :
    ∃ a xs ws ys, v = .ref a ∧ H a = some (.lst ws) ∧ Reps K g H xs ws ∧ xs.length ≤ sizeLine ∧ f xs = some (ys, d) ∧
      ∀ ws', ys.length ≤ sizeLine → Reps K g H ys ws' → SR K en g s2 σ (upd H a (.lst ws')) ∧ Keep (Own s.sl σ) g H (Own s2.sl σ) g (upd H a (.lst ws')) := by
  have cell : ∀ (l : Nat) (a : Addr), g.ms[l]? = some a → v = .ref a → (match s.h[l]? with
      | some (.lst xs) => (match f xs with | some (ys, d) => Out.ok d { s with h := s.h.set l (.lst ys) } | none => Out.stuck)
      | _ => Out.stuck) = .ok d s2 → ∃ a xs ws ys, v = .ref a ∧ H a = some (.lst ws) ∧ Reps K g H xs ws ∧ xs.length ≤ sizeLine ∧ f xs = some (ys, d) ∧
      ∀ ws', ys.length ≤ sizeLine → Reps K g H ys ws' → SR K en g s2 σ (upd H a (.lst ws')) ∧ Keep (Own s.sl σ) g H (Own s2.sl σ) g (upd H a (.lst ws')) := by
    intro l a hm ev h
    cases hl : s.h[l]? with
    | none => rw [hl] at h; cases h
    | some co =>
      rw [hl] at h
      cases co with
      | lst xs =>
        obtain ⟨ws, e1, z, t⟩ := r.cells.at_ l a _ hm hl
        cases hf : f xs with
        | none =>
          have h : (match f xs with | some (ys, d) => Out.ok d { s with h := s.h.set l (.lst ys) } | none => Out.stuck) = .ok d s2 := h
          rw [hf] at h; cases h
        | some p =>
          obtain ⟨ys, d'⟩ := p
          have h : (match f xs with | some (ys, d) => Out.ok d { s with h := s.h.set l (.lst ys) } | none => Out.stuck) = .ok d s2 := h
          rw [hf] at h
          cases h
          refine ⟨a, xs, ws, ys, ev, e1, t, z, hf, fun ws' z' t' => ?_⟩
          exact r.setCell hm hl z' t'
      | dct kvs => cases h
      | ins c fs => cases h
  cases o with
  | d x =>
    cases x with
    | ref l =>
      cases q with
      | ref hm => exact cell l _ hm rfl h
    | _ => cases h
  | sl i =>
    have hv : σ[i]? = some (some v) := q
    have h : (match s.sl[i]? with
      | some (some (.lst xs, true)) => (match f xs with | some (ys, d) => Out.ok d { s with sl := s.sl.set i (some (.lst ys, true)) } | none => Out.stuck)
      | some (some (.ref l, _)) => (match s.h[l]? with
        | some (.lst xs) => (match f xs with | some (ys, d) => Out.ok d { s with h := s.h.set l (.lst ys) } | none => Out.stuck)
        | _ => Out.stuck)
      | _ => Out.stuck) = .ok d s2 := h
    split at h
    · rename_i xs hs
      obtain ⟨v', e1, q1⟩ := r.slot i _ _ hs
      rw [hv] at e1
      cases e1
      obtain ⟨us, a, ws, e2, e3, e4, z, t⟩ := q1
      cases e2
      subst e3
      cases hf : f xs with
      | none => rw [hf] at h; cases h
      | some p =>
        obtain ⟨ys, d'⟩ := p
        rw [hf] at h
        cases h
        exact ⟨a, xs, ws, ys, rfl, e4, t, z, hf, fun ws' z' t' => r.setOwn hs hv z' t'⟩
    · rename_i l fl hs
      obtain ⟨v', e1, q1⟩ := r.slot i _ _ hs
      rw [hv] at e1
      cases e1
      cases fl with
      | true =>
        obtain ⟨us, a, ws, e2, _⟩ := q1
        cases e2
      | false =>
        have q1 : Rep K g H (.ref l) v := q1
        cases q1 with
        | ref hm => exact cell l _ hm rfl h
    · cases h
def MOp.id : MOp → String
  | .append => "list.append"
  | .pop => "list.pop"
  | .popAt => "list.pop"
  | .insert => "list.insert"
  | .extend => "list.extend"
  | .remove => "list.remove"
def MOp.nm : MOp → Str
  | .append => "append"
  | .pop => "pop"
  | .popAt => "pop"
  | .insert => "insert"
  | .extend => "extend"
  | .remove => "remove"
/-- what a method does at the heap -/
def rM (K : PySem.W.Frag) (m : MOp) : V → List V → Hp → VK → Prop := fun x vs H Q => ∃ (g : G) (O : Addr → Prop), ∃ a xs ws ds ys d, x = .ref a ∧ H a = some (.lst ws) ∧ Apart O g H ∧ Reps K g H xs ws ∧ xs.length ≤ sizeLine ∧ Reps K g H ds vs ∧ m.app xs ds = some (ys, d) ∧
  ∀ y ws', ys.length ≤ sizeLine → Reps K g H ys ws' → Rep K g H d y → Q y (upd H a (.lst ws'))
theorem mut_as {m : MOp} {c : C} {es : Cs} {Q : VK} (h : tSim K en W (.mut m c es) σ H Q) : tBM K "list" (rM K m) (tSimO K en W c) (tSims K en W es) σ H Q := by
  obtain ⟨g, s, r, h⟩ := h
  have h : post K en W σ (Own s.sl σ) g H ((opdOf c (ev c) s).bind fun o s => if o.isL s = true then (evs es s).bind fun ds s =>
      (chg s o (fun xs => m.app xs ds)).bind fun d s => Out.ok (d, false) s else Out.stuck) _ := h
  refine (⟨g, s, r, post_imp (post_bind h) fun o s1 g1 H1 e1 r1 k1 h v rep => ?_⟩ : tSimO K en W c σ H _)
  by_cases hL : o.isL s1 = true
  · rw [if_pos hL] at h
    obtain ⟨a, vs, ea, ha⟩ := isL_of r1 rep hL
    refine ⟨by subst ea; exact .inl ⟨rfl, vs, .inl (.inl ha)⟩, ?_⟩
    refine (⟨g1, s1, r1, post_imp (post_bind h) fun ds s2 g2 H2 e2 r2 k2 h ws reps => ?_⟩ : tSims K en W es σ H1 _)
    cases hc : chg s2 o (fun xs => m.app xs ds) with
    | stuck => rw [hc] at h; exact h.elim
    | exc x s3 =>
      exfalso
      revert hc
      unfold chg
      intro hc
      repeat' split at hc
      all_goals cases hc
    | ok d s3 =>
      rw [hc] at h
      obtain ⟨a, xs, us, ys, ev, e3, t, z, hf, fin⟩ := chg_as r2 (rep.keep k2 r1.apart) hc
      refine ⟨g2, Own s2.sl σ, a, xs, us, ds, ys, d, ev, e3, r2.apart, t, z, reps, hf, fun y ws' z' t' ry => ?_⟩
      obtain ⟨r3, k3⟩ := fin ws' z' t'
      have h : ∀ g' H', SR K en g' s3 σ H' → Keep (Own s2.sl σ) g2 H2 (Own s3.sl σ) g' H' → _ := h
      exact h g2 _ r3 k3 y (ry.keep k3 r2.apart)
  · rw [if_neg hL] at h; exact h.elim
end
section
variable {X : Cx}
theorem Reps.one {K : PySem.W.Frag} {g : G} {H : Hp} {d : D} {vs : List V} (h : Reps K g H [d] vs) : ∃ v, vs = [v] ∧ Rep K g H d v := by
  cases h with
  | cons r t => cases t; exact ⟨_, rfl, r⟩
theorem Reps.two {K : PySem.W.Frag} {g : G} {H : Hp} {d e : D} {vs : List V} (h : Reps K g H [d, e] vs) : ∃ v w, vs = [v, w] ∧ Rep K g H d v ∧ Rep K g H e w := by
  cases h with
  | cons r t =>
    obtain ⟨w, rfl, q⟩ := t.one
    exact ⟨_, w, rfl, r, q⟩
theorem szl : SZ = sizeLine := by rw [sizeLine_eq]
theorem ix_seq {n k : Nat} {i : Int} (h : ixD n i = some k) : seqIndex? i n = some k ∧ -(n : Int) ≤ i ∧ i < n ∧ k < n := by
  unfold ixD at h
  by_cases h1 : 0 ≤ i
  · rw [if_pos h1] at h
    by_cases h2 : i < (n : Int)
    · rw [if_pos h2] at h
      cases h
      exact ⟨seqIndex_of h1 h2, by omega, h2, by omega⟩
    · rw [if_neg h2] at h; cases h
  · rw [if_neg h1] at h
    by_cases h2 : -(n : Int) ≤ i
    · rw [if_pos h2] at h
      cases h
      exact ⟨seqIndex_neg (by omega) h2, h2, by omega, by omega⟩
    · rw [if_neg h2] at h; cases h
theorem m_append : MtR X "list.append" (rM X.K .append) := fun pins s σ H x vs v us Q I rx rv h => by
  obtain ⟨g, O, a, xs, ws, ds, ys, d, ex, e1, p, t, z, reps, hf, q⟩ := h
  cases reps with
  | nil => cases hf
  | cons rd rest =>
    cases rest with
    | cons _ _ => cases hf
    | nil =>
      rename_i d0 v0
      unfold MOp.app at hf
      simp only at hf
      by_cases hz : xs.length < SZ
      · rw [if_pos hz] at hf
        cases hf
        have hl := t.length
        rw [szl] at hz
        exact mt_append pins s σ H x _ v us Q I rx rv ⟨a, ws, v0, ex, rfl, e1, by omega, q .non _ (by rw [List.length_append, List.length_singleton]; omega) (t.snoc rd) .non⟩
      · rw [if_neg hz] at hf; cases hf
theorem m_pop : MtR X "list.pop" (rM X.K .pop) := fun pins s σ H x vs v us Q I rx rv h => by
  obtain ⟨g, O, a, xs, ws, ds, ys, d, ex, e1, p, t, z, reps, hf, q⟩ := h
  cases reps with
  | cons _ _ => cases hf
  | nil =>
    unfold MOp.app at hf
    simp only at hf
    split at hf
    · rename_i d' hd
      cases hf
      obtain ⟨y, hy, ry⟩ := t.get hd
      have hl := t.length
      exact mt_pop pins s σ H x _ v us Q I rx rv ⟨a, ws, y, ex, rfl, e1, by rw [← hl]; exact hy, q y _ (by rw [List.length_dropLast]; omega) t.dropLast ry⟩
    · cases hf
theorem len_ok {n : Nat} (h : n ≤ sizeLine) : (n : Int) < 2 ^ 63 := by
  rw [sizeLine_eq] at h
  omega
theorem m_popAt : MtR X "list.pop" (rM X.K .popAt) := fun pins s σ H x vs v us Q I rx rv h => by
  obtain ⟨g, O, a, xs, ws, ds, ys, d, ex, e1, p, t, z, reps, hf, q⟩ := h
  cases reps with
  | nil => cases hf
  | cons rd rest =>
    cases rest with
    | cons _ _ => cases rd <;> cases hf
    | nil =>
      cases rd with
      | int i =>
        have hf : (match ixD xs.length i with | some k => (match xs[k]? with | some d => some (xs.eraseIdx k, d) | none => none) | none => none) = some (ys, d) := hf
        cases hk : ixD xs.length i with
        | none => rw [hk] at hf; cases hf
        | some k =>
          rw [hk] at hf
          have hf : (match xs[k]? with | some d => some (xs.eraseIdx k, d) | none => none) = some (ys, d) := hf
          cases hx : xs[k]? with
          | none => rw [hx] at hf; cases hf
          | some d' =>
            rw [hx] at hf
            cases hf
            obtain ⟨h1, h2, h3, h4⟩ := ix_seq hk
            obtain ⟨y, hy, ry⟩ := t.get hx
            have hl := t.length
            have lz := len_ok z
            have le := len_erase xs k
            exact mt_popAt pins s σ H x _ v us Q I rx rv ⟨a, ws, i, k, y, ex, rfl, e1, by omega, by omega, by rw [← hl]; exact h1, hy, q y _ (by omega) (t.eraseIdx k) ry⟩
      | _ => cases hf
theorem m_extend : MtR X "list.extend" (rM X.K .extend) := fun pins s σ H x vs v us Q I rx rv h => by
  obtain ⟨g, O, a, xs, ws, ds, ys, d, ex, e1, p, t, z, reps, hf, q⟩ := h
  cases reps with
  | nil => cases hf
  | cons rd rest =>
    cases rest with
    | cons _ _ => cases rd <;> cases hf
    | nil =>
      cases rd with
      | lst f1 f2 z' t' =>
        rename_i b us' es
        have hf : (if xs.length + es.length ≤ SZ then some (xs ++ es, D.non) else none) = some (ys, d) := hf
        by_cases hz : xs.length + es.length ≤ SZ
        · rw [if_pos hz] at hf
          cases hf
          have hl := t.length
          have hl' := t'.length
          rw [szl] at hz
          exact mt_extend pins s σ H x _ v us Q I rx rv ⟨a, b, ws, us', ex, rfl, e1, f1, by omega, q .non _ (by rw [List.length_append]; exact hz) (t.append t') .non⟩
        · rw [if_neg hz] at hf; cases hf
      | _ => cases hf
theorem m_insert : MtR X "list.insert" (rM X.K .insert) := fun pins s σ H x vs v us Q I rx rv h => by
  obtain ⟨g, O, a, xs, ws, ds, ys, d, ex, e1, p, t, z, reps, hf, q⟩ := h
  cases reps with
  | nil => cases hf
  | cons rd rest =>
    cases rest with
    | nil => cases rd <;> cases hf
    | cons re rest =>
      cases rest with
      | cons _ _ => cases rd <;> cases hf
      | nil =>
        cases rd with
        | int i =>
          rename_i d0 v0
          have hf : (if 0 ≤ i ∧ i ≤ xs.length ∧ xs.length < SZ then some (xs.take i.toNat ++ d0 :: xs.drop i.toNat, D.non) else none) = some (ys, d) := hf
          by_cases hz : 0 ≤ i ∧ i ≤ xs.length ∧ xs.length < SZ
          · rw [if_pos hz] at hf
            cases hf
            have hl := t.length
            have lz := len_ok z
            rw [szl] at hz
            refine mt_insert pins s σ H x _ v us Q I rx rv ⟨a, ws, i, v0, ex, rfl, e1, by omega, hz.1, by omega, q .non _ ?_ ?_ .non⟩
            · rw [List.length_append, List.length_cons, List.length_take, List.length_drop]; omega
            · rw [List.append_assoc]
              exact (t.take _).append (.cons re (t.drop _))
          · rw [if_neg hz] at hf; cases hf
        | _ => cases hf
end
section
variable {X : Cx} {en : Ent} {W : WX} {apos cpos : Pos}
theorem m_run : ∀ m : MOp, m ≠ .remove → MtR X m.id (rM X.K m)
  | .append, _ => m_append
  | .pop, _ => m_pop
  | .popAt, _ => m_popAt
  | .insert, _ => m_insert
  | .extend, _ => m_extend
  | .remove, h => absurd rfl h
theorem m_slot : ∀ m : MOp, Slot "list" m.nm m.id
  | .append => F.slot_list_append
  | .pop => F.slot_list_pop
  | .popAt => F.slot_list_pop
  | .insert => F.slot_list_insert
  | .extend => F.slot_list_extend
  | .remove => F.slot_list_remove
theorem m_type : ∀ m : MOp, typeOf (.builtin m.id) = pure (.type "method_descriptor")
  | .append => F.type_list_append
  | .pop => F.type_list_pop
  | .popAt => F.type_list_pop
  | .insert => F.type_list_insert
  | .extend => F.type_list_extend
  | .remove => F.type_list_remove
theorem sim_mut0 {m : MOp} {c : C} {o : Expr} {x : Str} (hm : m ≠ .remove) (hx : x = m.nm) (ho : PE X o (tSimO X.K en W c)) (hbase : attributeBase o x X.env (eval o X.env) = eval o X.env) (hline : (apos.endLine == cpos.line) = true) :
    PE X (.Call (.Attribute o x apos) [] [] cpos) (tSim X.K en W (.mut m c .nil)) := by
  subst hx
  refine (pe_bm0 F.plainAttrs_list (m_slot m) (m_type m) (m_run m hm) ho hbase hline).impD fun σ H Q q => ?_
  have q := mut_as q
  refine tSimO_mono q fun v H1 q => ⟨q.1, ?_⟩
  obtain ⟨g, s, r, q2⟩ := q.2
  exact q2 g H1 r Keep.refl [] .nil
theorem sim_mut {m : MOp} {c : C} {cs : Cs} {o e : Expr} {es : List Expr} {x : Str} (hm : m ≠ .remove) (hx : x = m.nm) (ho : PE X o (tSimO X.K en W c)) (ha : PA X (e :: es) (tSims X.K en W cs)) (hbase : attributeBase o x X.env (eval o X.env) = eval o X.env)
    (hfew : ((backTo cpos (starEach (e :: es) X.env)).all (fun x => !x.1) && (backToKw cpos (keywordEach [] X.env)).all (fun x => x.1.isSome)
      && decide ((e :: es).length + ([] : List Keyword).length + (if ([] : List Keyword).isEmpty then 0 else 1) < 30)) = true)
    (hline : (apos.endLine == cpos.line) = true) (hs : starEach (e :: es) X.env = (false, eval e X.env) :: starEach es X.env) (hplain : (backTo cpos (starEach es X.env)).any (·.1) = false) :
    PE X (.Call (.Attribute o x apos) (e :: es) [] cpos) (tSim X.K en W (.mut m c cs)) := by
  subst hx
  exact (pe_bm F.plainAttrs_list (m_slot m) (m_type m) (m_run m hm) ho ha hbase hfew hline hs hplain).impD fun σ H Q q => mut_as q
end
end Dd

/-! Dd11: targets, comprehensions. -/
namespace Dd
open L2 PyProof.Rows PySem.Spec PySem

/-! ### targets -/
def gNs : List Nat → TGs
  | [] => gNil
  | i :: is => gCons (gName i) (gNs is)
def gT (K : PySem.W.Frag) (tg : List Nat) : Bool → TG
  | true => gName (tg.headD 0)
  | false => gTup K tg.length (gNs tg)
section
variable {K : PySem.W.Frag} {en : Ent} {g : G} {H : Hp}
theorem tgts_run : ∀ {tg : List Nat} {ds : List D} {vs : List V} {s : Sta} {σ : L2.St} {sl : Slots} {Q : L2.St → Hp → Prop}, SR K en g s σ H → Reps K g H ds vs → tgts s.sl tg ds = some sl → (∀ i ∈ tg, i < s.sl.length) →
    (∀ σ', SR K en g { s with sl := sl } σ' H → (∀ i, i ∉ tg → σ'[i]? = σ[i]?) → σ'.length = σ.length → (∀ a, Own sl σ' a → Own s.sl σ a) → Q σ' H) → gNs tg vs σ H Q
  | [], _, _, s, σ, sl, Q, r, .nil, h, _, q => by
    cases h
    exact ⟨rfl, q σ r (fun _ _ => rfl) rfl fun _ z => z⟩
  | [], _, _, s, σ, sl, Q, r, .cons _ _, h, _, q => by cases h
  | _ :: _, _, _, s, σ, sl, Q, r, .nil, h, _, q => by cases h
  | i :: is, _, _, s, σ, sl, Q, r, .cons (d := d) (v := v) (ds := ds) (vs := vs) rd t, h, hl, q => by
    have hi : i < s.sl.length := hl i List.mem_cons_self
    have r1 := r.set (Hs := H) (d := d) (o := false) (v := v) (fun a z => r.fresh0 z) hi rd
    refine ⟨v, vs, rfl, ?_⟩
    refine tgts_run (s := { s with sl := s.sl.set i (some (d, false)) }) r1 t h (fun j hj => by simpa using hl j (List.mem_cons_of_mem _ hj)) fun σ' r2 h2 l2 o2 => ?_
    refine q σ' r2 (fun j hj => ?_) (by rw [l2, List.length_set]) fun a ha => ?_
    · rw [h2 j (fun z => hj (List.mem_cons_of_mem _ z)), List.getElem?_set_ne (fun e => hj (by rw [← e]; exact List.mem_cons_self))]
    · obtain ⟨j, d', e1, e2⟩ := o2 a ha
      rcases set_get e1 with ⟨rfl, ey⟩ | ⟨hj, ey⟩
      · cases ey
      · rw [List.getElem?_set_ne (Ne.symm hj)] at e2
        exact ⟨j, d', ey, e2⟩
theorem tgt_run {tg : List Nat} {one : Bool} {d : D} {v : V} {s : Sta} {σ : L2.St} {sl : Slots} {Q : L2.St → Hp → Prop} (r : SR K en g s σ H) (rd : Rep K g H d v) (h : tgt s.sl tg one d = some sl) (hl : ∀ i ∈ tg, i < s.sl.length)
    (q : ∀ σ', SR K en g { s with sl := sl } σ' H → (∀ i, i ∉ tg → σ'[i]? = σ[i]?) → σ'.length = σ.length → (∀ a, Own sl σ' a → Own s.sl σ a) → Q σ' H) : gT K tg one v σ H Q := by
  cases one with
  | true =>
    match tg, h with
    | [i], h =>
      cases h
      have hi : i < s.sl.length := hl i List.mem_cons_self
      have r1 := r.set (Hs := H) (d := d) (o := false) (v := v) (fun a z => r.fresh0 z) hi rd
      refine q _ r1 (fun j hj => ?_) (by rw [List.length_set]) fun a ha => ?_
      · rw [List.getElem?_set_ne (fun e => hj (by rw [← e]; exact List.mem_cons_self))]
      · obtain ⟨j, d', e1, e2⟩ := ha
        rcases set_get e1 with ⟨rfl, ey⟩ | ⟨hj, ey⟩
        · cases ey
        · have e2 : (σ.set i (some v))[j]? = _ := e2
          rw [List.getElem?_set_ne (Ne.symm hj)] at e2
          exact ⟨j, d', ey, e2⟩
  | false =>
    cases rd with
    | tup e z t =>
      have h : tgts s.sl tg _ = some sl := h
      refine ⟨_, _, rfl, e, ?_, tgts_run r t h hl q⟩
      have : ∀ {tg : List Nat} {ds : List D} {s0 sl : Slots}, tgts s0 tg ds = some sl → ds.length = tg.length := by
        intro tg
        induction tg with
        | nil =>
          intro ds s0 sl h
          cases ds with
          | nil => rfl
          | cons _ _ => cases h
        | cons i is ih =>
          intro ds s0 sl h
          cases ds with
          | nil => cases h
          | cons d ds => simp only [List.length_cons, ih (by exact h)]
      rw [← t.length]
      exact this h
    | _ => cases h
end
/-! ### the slots of a block -/
theorem wipe_in {σ : L2.St} {i : Nat} : ∀ {vs : List Nat}, i ∈ vs → i < σ.length → (wipe σ vs)[i]? = some none
  | v :: vs, h, hi => by
    unfold wipe
    by_cases e : v = i
    · subst e
      rw [List.getElem?_set_self (by rw [wipe_length]; exact hi)]
    · rw [List.getElem?_set_ne e]
      exact wipe_in ((List.mem_cons.mp h).resolve_left fun z => e z.symm) hi
theorem wipe_eq {σ σ' : L2.St} {vs : List Nat} (hl : σ'.length = σ.length) (h : ∀ i, i ∉ vs → σ'[i]? = σ[i]?) : wipe σ' vs = wipe σ vs := by
  refine List.ext_getElem? fun i => ?_
  by_cases hi : i ∈ vs
  · by_cases hb : i < σ.length
    · rw [wipe_in hi hb, wipe_in hi (by rw [hl]; exact hb)]
    · rw [List.getElem?_eq_none (by rw [wipe_length, hl]; omega), List.getElem?_eq_none (by rw [wipe_length]; omega)]
  · rw [wipe_out hi, wipe_out hi]
    exact h i hi
theorem wipe2 {σ : L2.St} {vs : List Nat} : wipe (wipe σ vs) vs = wipe σ vs := wipe_eq (wipe_length σ vs) fun i hi => wipe_out hi
theorem backD_len (old : Slots) (sl : Slots) : ∀ vs : List Nat, (backD old sl vs).length = sl.length
  | [] => rfl
  | v :: vs => by unfold backD; rw [List.length_set, backD_len old sl vs]
theorem backD_out {old sl : Slots} {i : Nat} : ∀ {vs : List Nat}, i ∉ vs → (backD old sl vs)[i]? = sl[i]?
  | [], _ => rfl
  | v :: vs, h => by
    unfold backD
    rw [List.getElem?_set_ne (fun e => h (by rw [e]; exact List.mem_cons_self))]
    exact backD_out fun z => h (List.mem_cons_of_mem _ z)
theorem backD_in {old sl : Slots} {i : Nat} : ∀ {vs : List Nat}, i ∈ vs → i < sl.length → (backD old sl vs)[i]? = some ((old[i]?).getD none)
  | v :: vs, h, hi => by
    unfold backD
    by_cases e : v = i
    · subst e
      rw [List.getElem?_set_self (by rw [backD_len]; exact hi)]
    · rw [List.getElem?_set_ne e]
      exact backD_in ((List.mem_cons.mp h).resolve_left fun z => e z.symm) hi
theorem wipeD_len (sl : Slots) : ∀ vs : List Nat, (wipeD sl vs).length = sl.length
  | [] => rfl
  | v :: vs => by unfold wipeD; rw [List.length_set, wipeD_len sl vs]
theorem Keep.wide {O O2 O' : Addr → Prop} {g g' : G} {H H' : Hp} (k : Keep O g H O' g' H') (h : ∀ a, O a → O2 a) : Keep O2 g H O' g' H' :=
  ⟨(by
    obtain ⟨ext, em, fm⟩ := k.ms
    exact ⟨ext, em, fun a q => (fm a q).elim .inl fun z => .inr (h a z)⟩), k.fm, fun a f => (k.ff a f).elim .inl fun q => q.elim (fun z => .inr (.inl (h a z))) fun z => .inr (.inr z), fun a o e m n => k.st a o e m fun z => n (h a z), fun a q => (k.ow a q).elim (fun z => .inl (h a z)) .inr, k.th⟩
theorem Keep.updNew {O O' : Addr → Prop} {g g' : G} {H H' : Hp} {a : Addr} {o : HO} (k : Keep O g H O' g' H') (h : H a = none) : Keep O g H O' g' (upd H' a o) :=
  ⟨k.ms, k.fm, k.ff, fun b u e m n => by rw [upd_ne (ne_of_none e h)]; exact k.st b u e m n, k.ow, fun b e => by
    by_cases q : b = a
    · rw [q, upd_same]; exact Option.some_ne_none _
    · rw [upd_ne q]; exact k.th b e⟩
section
variable {K : PySem.W.Frag} {e : Ent} {g g' : G} {s s' : Sta} {σ : L2.St} {H H' : Hp}
/-- nobody's list is another -/
theorem SR.updD (r : SR K e g s σ H) {a : Addr} {vs ws : List V} (q : Out_ g (Own s.sl σ) H a vs) (h0 : e.H0 a = none) :
    SR K e g s σ (upd H a (.lst ws)) ∧ (∀ {ds : List D} {us : List V}, Reps K g H ds us → Reps K g (upd H a (.lst ws)) ds us) ∧ (∀ {d : D} {u : V}, Rep K g H d u → Rep K g (upd H a (.lst ws)) d u) := by
  let O1 : Addr → Prop := fun b => Own s.sl σ b ∨ b = a
  have p : Apart O1 g H := ⟨fun b h => by
      rcases h with h | h | h
      · exact r.apart.mu b (.inl h)
      · exact r.apart.mu b (.inr h)
      · rw [h]; exact ⟨_, q.at_, rfl⟩,
    fun b f => ⟨(r.apart.nF b f).1, fun h => h.elim (r.apart.nF b f).2 fun z => q.nF (z ▸ f)⟩, r.apart.tF⟩
  have k : Keep O1 g H O1 g (upd H a (.lst ws)) :=
    ⟨⟨[], by simp, by simp⟩, fun _ h => h, fun _ h => .inl h, fun b o h _ n => by rw [upd_ne (fun z => n (.inr z))]; exact h, fun _ h => .inl h, fun b h => by
      by_cases z : b = a
      · rw [z, upd_same]; exact Option.some_ne_none _
      · rw [upd_ne z]; exact h⟩
  have ne : ∀ {b}, Own s.sl σ b → b ≠ a := fun {b} h z => q.nO (z ▸ h)
  have tr : ∀ b o, H b = some o → mutO o = true → ∃ o', upd H a (.lst ws) b = some o' ∧ mutO o' = true := fun b o h m => by
    by_cases z : b = a
    · exact ⟨_, by rw [z, upd_same], rfl⟩
    · exact ⟨o, by rw [upd_ne z]; exact h, m⟩
  refine ⟨⟨r.keep.updNew h0, r.ln, fun i d o h => ?_, r.inj, ⟨r.cells.len, r.cells.nd, r.cells.nF, fun b f => ?_, fun l b co e1 e2 => ?_⟩, r.ownF⟩, fun {ds us} t => t.keep k p, fun {d u} t => t.keep k p⟩
  · obtain ⟨v, e1, sr⟩ := r.slot i d o h
    refine ⟨v, e1, ?_⟩
    cases o with
    | false => exact Rep.keep k p sr
    | true =>
      obtain ⟨xs, b, vs', e2, e3, e4, z, t⟩ := sr
      subst e3
      exact ⟨xs, b, vs', e2, rfl, by rw [upd_ne (ne ⟨i, d, h, e1⟩)]; exact e4, z, t.keep k p⟩
  · obtain ⟨o, e1, m⟩ := r.cells.tF b f
    exact tr b o e1 m
  · have c := r.cells.at_ l b co e1 e2
    have nb : b ≠ a := fun z => q.nM (z ▸ List.mem_of_getElem? e1)
    cases co with
    | lst xs =>
      obtain ⟨vs', e3, z, t⟩ := c
      exact ⟨vs', by rw [upd_ne nb]; exact e3, z, t.keep k p⟩
    | dct kvs => exact c.elim
    | ins c fs => exact c.elim
/-- back from a block -/
theorem SR.back {own : List Nat} (r1 : SR K e g s σ H) (hno : ∀ i ∈ own, s.sl.owns i = false) (r : SR K e g' s' (L2.wipe σ own) H') (k : Keep (Own s.sl σ) g H (Own s'.sl (L2.wipe σ own)) g' H') :
    SR K e g' { s' with sl := backD s.sl s'.sl own } σ H' ∧ ∀ a, Own (backD s.sl s'.sl own) σ a → Own s'.sl (L2.wipe σ own) a := by
  have hlen : s'.sl.length = s.sl.length := by rw [r.len, wipe_length, r1.len]
  have old : ∀ (i : Nat) d o, i ∈ own → (backD s.sl s'.sl own)[i]? = some (some (d, o)) → s.sl[i]? = some (some (d, false)) ∧ o = false := fun i d o hi h => by
    have hlt : i < s'.sl.length := by
      have := (List.getElem?_eq_some_iff.mp h).1
      rw [backD_len] at this
      exact this
    rw [backD_in hi hlt] at h
    have n := hno i hi
    unfold Slots.owns at n
    cases hs : s.sl[i]? with
    | none => rw [hs] at h; cases h
    | some x =>
      rw [hs] at h
      have h : x = some (d, o) := Option.some.inj h
      rw [hs, h] at n
      cases o with
      | true => cases n
      | false => exact ⟨by rw [h], rfl⟩
  have oa : ∀ (i : Nat) a, OwnAt (backD s.sl s'.sl own) σ i a → OwnAt s'.sl (L2.wipe σ own) i a := fun i a ⟨d, e1, e2⟩ => by
    by_cases hi : i ∈ own
    · exact nomatch (old i d true hi e1).2
    · exact ⟨d, by rw [← backD_out (old := s.sl) hi]; exact e1, by rw [wipe_out hi]; exact e2⟩
  refine ⟨⟨r.keep.less (own_same oa), ⟨by rw [backD_len, hlen, r1.len], by rw [backD_len, r.nn]⟩, fun i d o h => ?_, fun i j a h1 h2 => r.inj i j a (oa i a h1) (oa j a h2), r.cells, fun a h => r.ownF a (own_same oa a h)⟩, own_same oa⟩
  by_cases hi : i ∈ own
  · obtain ⟨h1, rfl⟩ := old i d o hi h
    obtain ⟨v, e1, sr⟩ := r1.slot i d false h1
    exact ⟨v, e1, Rep.keep k r1.apart sr⟩
  · have h : (backD s.sl s'.sl own)[i]? = some (some (d, o)) := h
    rw [backD_out hi] at h
    obtain ⟨v, e1, sr⟩ := r.slot i d o h
    rw [wipe_out hi] at e1
    exact ⟨v, e1, sr⟩
end
end Dd

/-! Dd12: comprehensions. -/
namespace Dd
open L2 PyProof.Rows PySem.Spec PySem

def noW : WX := fun _ _ _ _ => False
section
variable {X : Cx} {en : Ent} {W : WX} {pos : Pos} {K : PySem.W.Frag}
def tCond (K : PySem.W.Frag) (en : Ent) (W : WX) : Cs → TT
  | .cons c .nil => tSimT K en W c
  | _ => tYes
/-- one turn of a block -/
def cTurn (own : List Nat) (tg : List Nat) (one : Bool) (cond : Cs) (elt : C) (d : D) (s1 : Sta) : Out Sta (Option D) := match tgt s1.sl tg one d with
  | some sl => (evc cond { s1 with sl := sl }).bind fun k s2 => match k with
    | true => (ev elt s2).bind fun y s3 => .ok (some y.1) { s3 with sl := wipeD s3.sl own }
    | false => .ok none { s2 with sl := wipeD s2.sl own }
  | none => .stuck
theorem ok_bind {α β : Type} {o : Out Sta α} {f : α → Sta → Out Sta β} {b : β} {s : Sta} (h : o.bind f = .ok b s) : ∃ a s', o = .ok a s' ∧ f a s' = .ok b s := by
  cases o with
  | ok a s' => exact ⟨a, s', rfl, h⟩
  | exc x s' => cases h
  | stuck => cases h
theorem lc_run {σ : L2.St} {g1 : G} {s1 : Sta} {H1 : Hp} {J : L2.It} {ds accF : List D} {sF : Sta} {own : List (Str × Nat)} {tg : List Nat} {one : Bool} {cond : Cs} {elt : C} {A : Addr} {Qd : Hp → Prop}
    (r1 : SR K en g1 s1 σ H1) {Hd : Addr → Prop} (w : WalkD K g1 H1 J ds Hd) (hHd : ∀ b, Hd b → H1 b ≠ none ∧ ¬ Own s1.sl σ b) (hA : H1 A = none) (hcond : cond = .nil ∨ ∃ c, cond = .cons c .nil) (htg : ∀ i ∈ tg, i ∈ own.map (·.2)) (hlen : ∀ i ∈ own.map (·.2), i < en.n)
    (hno : ∀ i ∈ own.map (·.2), s1.sl.owns i = false)
    (hrun : compL (cTurn (own.map (·.2)) tg one cond elt) ds [] { s1 with sl := wipeD s1.sl (own.map (·.2)) } = .ok accF sF)
    (hQ : ∀ g' H', SR K en g' { sF with sl := backD s1.sl sF.sl (own.map (·.2)) } σ H' → Keep (Own s1.sl σ) g1 H1 (Own (backD s1.sl sF.sl (own.map (·.2))) σ) g' H' →
      RepR K H1 g' H' (Own (backD s1.sl sF.sl (own.map (·.2))) σ) (.lst accF) true (.ref A) → Qd H') :
    ∃ W : Nat → Nat → Hp → Prop, (∃ m, W 0 m (upd H1 A (.lst []))) ∧ ∀ i m H, W i m H →
      (J.stop i H ∧ Qd H) ∨ (J.go i H ∧ ∃ Nx : Hp → Prop, (∀ H', Nx H' → ∃ m', m' < m ∧ W (i + 1) m' H') ∧ ∀ x H', J.yld i H x H' → gT K tg one x (wipe σ (own.map (·.2))) H' fun σ2 H2 => wipe σ2 (own.map (·.2)) = wipe σ (own.map (·.2)) ∧ tCond K en noW cond σ2 H2 fun b H3 =>
        if b = true then tSim K en noW elt σ2 H3 fun y H4 => ∃ acc, H4 A = some (.lst acc) ∧ acc.length < sizeLine ∧ Nx (upd H4 A (.lst (acc ++ [y]))) else Nx H3) := by
  obtain ⟨hz, St, st0, keep, goes, stops, yields⟩ := w
  generalize hvs : own.map (·.2) = vs at *
  have h0 : en.H0 A = none := r1.fresh0 hA
  have nh : ∀ {O' : Addr → Prop} {g' : G} {H' : Hp}, Keep (Own s1.sl σ) g1 H1 O' g' H' → ∀ b, Hd b → ¬ O' b := fun k b hb o => (k.ow b o).elim (hHd b hb).2 fun z => (hHd b hb).1 z
  let Pv : Nat → Hp → Prop := fun i H => ∃ g s acc us, SR K en g s (wipe σ vs) H ∧ St g H ∧ Keep (Own s1.sl σ) g1 H1 (Own s.sl (wipe σ vs)) g H ∧ Out_ g (Own s.sl (wipe σ vs)) H A us ∧ Reps K g H acc us ∧ acc.length ≤ i ∧
    compL (cTurn vs tg one cond elt) (ds.drop i) acc s = .ok accF sF
  have lenW : (wipe σ vs).length = σ.length := wipe_length σ vs
  refine ⟨fun i m H => m = ds.length - i ∧ i ≤ ds.length ∧ Pv i H, ⟨ds.length, by simp, Nat.zero_le _, ?_⟩, ?_⟩
  · -- the start
    have hs := same_upd (o := HO.lst []) hA
    have r2 := r1.same hs
    have r3 := r2.wipe vs
    have k1 : Keep (Own s1.sl σ) g1 H1 (Own s1.sl σ) g1 (upd H1 A (.lst [])) := Keep.same hs
    have sub : ∀ a, Own (wipeD s1.sl vs) (wipe σ vs) a → Own s1.sl σ a := by
      have q : ∀ us : List Nat, ∀ i a, OwnAt (wipeD s1.sl us) (wipe σ us) i a → OwnAt s1.sl σ i a := by
        intro us
        induction us with
        | nil => exact fun _ _ z => z
        | cons v us ih =>
          rintro i a ⟨d, e1, e2⟩
          unfold wipeD at e1
          unfold wipe at e2
          rcases set_get e1 with ⟨rfl, ey⟩ | ⟨hj, ey⟩
          · cases ey
          · rw [List.getElem?_set_ne (Ne.symm hj)] at e2
            exact ih i a ⟨d, ey, e2⟩
      exact own_same (q vs)
    refine ⟨g1, _, [], [], r3, keep _ _ _ _ _ _ k1 r1.apart (fun b hb => (hHd b hb).2) st0, k1.less sub, ⟨upd_same, r1.notF hA, r1.notM hA, fun o => r1.notO hA (sub A o)⟩, .nil, Nat.zero_le _, hrun⟩
  · rintro i m H ⟨rfl, hi, g, s, acc, us, r, st, k, ou, ra, hacc, he⟩
    by_cases hlt : i < ds.length
    · refine .inr ⟨goes i g H hlt st, Pv (i + 1), fun H' p => ⟨ds.length - (i + 1), by omega, rfl, hlt, p⟩, fun x H' y => ?_⟩
      obtain ⟨hsame, hrep⟩ := yields i g H x H' st y
      obtain ⟨d, hd⟩ := get_lt hlt
      have rx := hrep d hd _ r.apart
      have kk : Keep (Own s.sl (wipe σ vs)) g H (Own s.sl (wipe σ vs)) g H' := Keep.same hsame
      have r' := r.same hsame
      have st' := keep _ _ _ _ _ _ kk r.apart (nh k) st
      have k' := k.trans kk
      have ou' := ou.keep kk
      have ra' := ra.keep kk r.apart
      have hdrop : ds.drop i = d :: ds.drop (i + 1) := by
        have := List.drop_eq_getElem_cons hlt
        rw [this]
        congr 1
        exact (List.getElem?_eq_some_iff.mp hd).2
      rw [hdrop] at he
      have he : (cTurn vs tg one cond elt d s).bind (fun o s => match o with
        | some y => compL (cTurn vs tg one cond elt) (ds.drop (i + 1)) (acc ++ [y]) s
        | none => compL (cTurn vs tg one cond elt) (ds.drop (i + 1)) acc s) = .ok accF sF := he
      obtain ⟨o, s2, ht, he⟩ := ok_bind he
      unfold cTurn at ht
      cases htg2 : tgt s.sl tg one d with
      | none => rw [htg2] at ht; cases ht
      | some sl =>
        rw [htg2] at ht
        have ht : ((evc cond { s with sl := sl }).bind fun k s2 => match k with
          | true => (ev elt s2).bind fun y s3 => Out.ok (some y.1) { s3 with sl := wipeD s3.sl vs }
          | false => Out.ok none { s2 with sl := wipeD s2.sl vs }) = .ok o s2 := ht
        obtain ⟨b, s3, hc, ht⟩ := ok_bind ht
        refine tgt_run r' rx htg2 (fun j hj => by rw [r.nn]; exact hlen j (htg j hj)) fun σ2 r2 hσ hσl own2 => ?_
        have ew : wipe σ2 vs = wipe σ vs := by
          rw [← wipe2 (σ := σ) (vs := vs)]
          exact wipe_eq hσl fun j hj => hσ j fun z => hj (htg j z)
        refine ⟨ew, ?_⟩
        have k2 : Keep (Own s.sl (wipe σ vs)) g H' (Own sl σ2) g H' := Keep.refl.less own2
        -- what is done behind the tests, at their heap
        have rest : ∀ g3 H3, SR K en g3 s3 σ2 H3 → Keep (Own sl σ2) g H' (Own s3.sl σ2) g3 H3 → if b = true then tSim K en noW elt σ2 H3 (fun y H4 => ∃ acc, H4 A = some (.lst acc) ∧ acc.length < sizeLine ∧ Pv (i + 1) (upd H4 A (.lst (acc ++ [y])))) else Pv (i + 1) H3 := by
          intro g3 H3 r3 k3
          have kf := k'.trans (k2.trans k3)
          have kl := k2.trans k3
          have ou3 := ou'.keep kl
          have ra3 := ra'.keep kl r'.apart
          have st3 := keep _ _ _ _ _ _ kl r'.apart (nh k') st'
          have fin : ∀ {g4 : G} {s4 : Sta} {H4 : Hp}, SR K en g4 s4 σ2 H4 → Own (wipeD s4.sl vs) (wipe σ2 vs) A → Own s4.sl σ2 A := by
            intro g4 s4 H4 _ ⟨j, d', e1, e2⟩
            have q : ∀ us : List Nat, ∀ i a, OwnAt (wipeD s4.sl us) (wipe σ2 us) i a → OwnAt s4.sl σ2 i a := by
              intro us
              induction us with
              | nil => exact fun _ _ z => z
              | cons v us ih =>
                rintro i a ⟨d, e1, e2⟩
                unfold wipeD at e1
                unfold wipe at e2
                rcases set_get e1 with ⟨rfl, ey⟩ | ⟨hj, ey⟩
                · cases ey
                · rw [List.getElem?_set_ne (Ne.symm hj)] at e2
                  exact ih i a ⟨d, ey, e2⟩
            exact ⟨j, q vs j A ⟨d', e1, e2⟩⟩
          have sub : ∀ (s4 : Sta) a, Own (wipeD s4.sl vs) (wipe σ2 vs) a → Own s4.sl σ2 a := by
            intro s4
            have q : ∀ us : List Nat, ∀ i a, OwnAt (wipeD s4.sl us) (wipe σ2 us) i a → OwnAt s4.sl σ2 i a := by
              intro us
              induction us with
              | nil => exact fun _ _ z => z
              | cons v us ih =>
                rintro i a ⟨d, e1, e2⟩
                unfold wipeD at e1
                unfold wipe at e2
                rcases set_get e1 with ⟨rfl, ey⟩ | ⟨hj, ey⟩
                · cases ey
                · rw [List.getElem?_set_ne (Ne.symm hj)] at e2
                  exact ih i a ⟨d, ey, e2⟩
            exact own_same (q vs)
          cases b with
          | false =>
            rw [if_neg Bool.false_ne_true]
            have ht : (Out.ok (none : Option D) ({ s3 with sl := wipeD s3.sl vs } : Sta) : Out Sta (Option D)) = .ok o s2 := ht
            cases ht
            have rw4 := r3.wipe vs
            rw [ew] at rw4
            have sb := sub s3
            rw [ew] at sb
            exact ⟨g3, _, acc, us, rw4, st3, kf.less sb, ⟨ou3.at_, ou3.nF, ou3.nM, fun z => ou3.nO (sb A z)⟩, ra3, by omega, he⟩
          | true =>
            rw [if_pos rfl]
            have ht : ((ev elt s3).bind fun y s3 => Out.ok (some y.1) ({ s3 with sl := wipeD s3.sl vs } : Sta)) = .ok o s2 := ht
            obtain ⟨y, s4, hy, ht⟩ := ok_bind ht
            cases ht
            refine tSim_F ⟨g3, s3, r3, ?_⟩
            rw [hy]
            intro g4 H4 r4 k4 v rep
            have ou4 := ou3.keep k4
            have ra4 := ra3.keep k4 r3.apart
            have st4 := keep _ _ _ _ _ _ k4 r3.apart (nh kf) st3
            obtain ⟨r5, c5, c5'⟩ := r4.updD (ws := us ++ [v]) ou4 h0
            have hus := ra4.length
            refine ⟨us, ou4.at_, by omega, ?_⟩
            have rw5 := r5.wipe vs
            rw [ew] at rw5
            have sb := sub s4
            rw [ew] at sb
            have kall : Keep (Own s1.sl σ) g1 H1 (Own s4.sl σ2) g4 H4 := kf.trans k4
            refine ⟨g4, _, acc ++ [y.1], us ++ [v], rw5, ?_, (kall.updNew hA).less sb, ⟨upd_same, ou4.nF, ou4.nM, fun z => ou4.nO (sb A z)⟩, (c5 ra4).snoc (c5' rep), by rw [List.length_append, List.length_singleton]; omega, he⟩
            refine keep (fun b => Own s4.sl σ2 b ∨ b = A) g4 H4 (fun b => Own s4.sl σ2 b ∨ b = A) g4 _ ⟨⟨[], by simp, by simp⟩, fun _ h => h, fun _ h => .inl h, fun b o h _ n => by rw [upd_ne (fun z => n (.inr z))]; exact h, fun _ h => .inl h, fun b h => ?_⟩ ⟨fun b h => ?_, fun b f => ⟨(r4.apart.nF b f).1, fun h => h.elim (r4.apart.nF b f).2 fun z => ou4.nF (z ▸ f)⟩, r4.apart.tF⟩ (fun b hb z => z.elim (nh kall b hb) fun e => (hHd b hb).1 (e ▸ hA)) st4
            · by_cases z : b = A
              · rw [z, upd_same]; exact Option.some_ne_none _
              · rw [upd_ne z]; exact h
            · rcases h with h | h | h
              · exact r4.apart.mu b (.inl h)
              · exact r4.apart.mu b (.inr h)
              · rw [h]; exact ⟨_, ou4.at_, rfl⟩
        rcases hcond with hcn | ⟨c, hcc⟩
        · subst hcn
          cases hc
          exact rest g H' r2 Keep.refl
        · subst hcc
          have hc : ((ev c { s with sl := sl }).bind fun d s => match d.1 with
            | .bl b => Out.ok b s
            | _ => Out.stuck) = .ok b s3 := hc
          obtain ⟨dc, s5, hc1, hc2⟩ := ok_bind hc
          refine (⟨g, { s with sl := sl }, r2, ?_⟩ : tSimT K en noW c σ2 H' _)
          rw [hc1]
          intro g3 H3 r3 k3
          obtain ⟨dv, fl⟩ := dc
          cases dv with
          | bl b' =>
            cases hc2
            exact ⟨b, rfl, rest g3 H3 r3 k3⟩
          | _ => cases hc2
    · have ei : i = ds.length := by omega
      subst ei
      refine .inl ⟨stops g H st, ?_⟩
      rw [List.drop_length] at he
      cases he
      have kk : Keep (Own s1.sl σ) g1 H1 (Own sF.sl (wipe σ vs)) g H := k
      obtain ⟨r2, o2⟩ := SR.back r1 hno r kk
      refine hQ g H r2 (kk.less o2) ⟨accF, A, us, rfl, rfl, ou.at_, by omega, ra, ou.nF, ou.nM, fun z => ou.nO (o2 A z), hA⟩
/-- a comprehension's reading -/
theorem comp_as {σ : L2.St} {H : Hp} {own : List (Str × Nat)} {tg : List Nat} {one : Bool} {it : It} {cond : Cs} {elt : C} {Q : VK} (hcond : cond = .nil ∨ ∃ c, cond = .cons c .nil) (htg : ∀ i ∈ tg, i ∈ own.map (·.2)) (hlen : ∀ i ∈ own.map (·.2), i < en.n)
    (h : tSim K en W (.comp own tg one it cond elt) σ H Q) : tLc (tIt K en W it) (gT K tg one) (tCond K en noW cond) (tSim K en noW elt) (own.map (·.2)) σ H Q := by
  obtain ⟨g, s0, r, h⟩ := h
  have h : post K en W σ (Own s0.sl σ) g H ((evi it s0).bind fun ds s => if (own.all fun p => !s.sl.owns p.2) = true then
        match (compL (cTurn (own.map (·.2)) tg one cond elt) ds [] { s with sl := wipeD s.sl (own.map (·.2)) }) with
        | .ok acc s2 => Out.ok (D.lst acc, true) { s2 with sl := unh it s0.sl (backD s.sl s2.sl (own.map (·.2))) }
        | _ => Out.stuck
      else Out.stuck) _ := h
  refine (⟨g, s0, r, ?_⟩ : tIt K en W it σ H _)
  cases he : evi it s0 with
  | exc x s' => rw [he] at h; exact h
  | stuck => rw [he] at h; exact h
  | ok ds s1 =>
    rw [he] at h
    have h : post K en W σ (Own s0.sl σ) g H (if (own.all fun p => !s1.sl.owns p.2) = true then
        match (compL (cTurn (own.map (·.2)) tg one cond elt) ds [] { s1 with sl := wipeD s1.sl (own.map (·.2)) }) with
        | .ok acc s2 => Out.ok (D.lst acc, true) { s2 with sl := unh it s0.sl (backD s1.sl s2.sl (own.map (·.2))) }
        | _ => Out.stuck
      else Out.stuck) _ := h
    intro g1 H1 r1 k1 J w hid
    have hHd : ∀ b, hidA it σ b → H1 b ≠ none ∧ ¬ Own s1.sl σ b := fun b hb => by
      unfold hidA at hb
      cases hi : it.hid with
      | none => rw [hi] at hb; exact hb.elim
      | some i =>
        rw [hi] at hb
        obtain ⟨xs, a, vs, _, e2, ou, _⟩ := hid i hi
        have hb : σ[i]? = some (some (.ref b)) := hb
        rw [e2] at hb
        cases hb
        exact ⟨by rw [ou.at_]; exact Option.some_ne_none _, ou.nO⟩
    intro A hA
    by_cases ho : (own.all fun p => !s1.sl.owns p.2) = true
    · rw [if_pos ho] at h
      cases hrun : compL (cTurn (own.map (·.2)) tg one cond elt) ds [] { s1 with sl := wipeD s1.sl (own.map (·.2)) } with
      | ok accF sF =>
        rw [hrun] at h
        refine lc_run r1 w hHd hA hcond htg hlen (fun i hi => ?_) hrun fun g' H' r2 k2 rep => ?_
        · obtain ⟨p, hp, rfl⟩ := List.mem_map.mp hi
          have := List.all_eq_true.mp ho p hp
          simpa using this
        · obtain ⟨xs, a, vs, e2, e3, e4, z, t, f, m, o, h0⟩ := rep
          have h : post K en W σ (Own s0.sl σ) g H (Out.ok (D.lst accF, true) ({ sF with sl := unh it s0.sl (backD s1.sl sF.sl (own.map (·.2))) } : Sta)) _ := h
          cases hi : it.hid with
          | none =>
            have eu : ∀ sl, unh it s0.sl sl = sl := fun sl => by cases it <;> first | rfl | cases hi
            rw [eu] at h
            exact h g' H' r2 (k1.trans k2) _ ⟨xs, a, vs, e2, e3, e4, z, t, f, m, o, none_back k1 h0⟩
          | some i =>
            obtain ⟨ys, b, us, y1, y2, ou, y3, y4, y5⟩ := hid i hi
            have eu : ∀ sl, unh it s0.sl sl = sl.set i (some (.lst ys, true)) := fun sl => by
              have : unh it s0.sl sl = sl.set i ((s0.sl[i]?).getD none) := by
                cases it <;> cases hi <;> rfl
              rw [this, y1]
              rfl
            rw [eu] at h
            have ou2 := ou.keep k2
            have t2 := y4.keep k2 r1.apart
            have hlt : i < σ.length := (List.getElem?_eq_some_iff.mp y2).1
            have r3 := r2.set (Hs := en.H0) (i := i) (d := .lst ys) (o := true) (v := .ref b) (fun a z => z) (by rw [r2.len]; exact hlt) ⟨ys, b, us, rfl, rfl, ou2.at_, y3, t2, ou2.nF, ou2.nM, ou2.nO, y5⟩
            have es : σ.set i (some (.ref b)) = σ := by
              refine List.ext_getElem? fun j => ?_
              by_cases q : i = j
              · subst q
                rw [List.getElem?_set_self hlt, y2]
              · rw [List.getElem?_set_ne q]
            rw [es] at r3
            have ob : ∀ c, Own ((backD s1.sl sF.sl (own.map (·.2))).set i (some (.lst ys, true))) σ c → Own (backD s1.sl sF.sl (own.map (·.2))) σ c ∨ c = b := by
              rintro c ⟨j, d', q1, q2⟩
              rcases set_get q1 with ⟨rfl, ey⟩ | ⟨hj, ey⟩
              · rw [y2] at q2
                cases q2
                exact .inr rfl
              · exact .inl ⟨j, d', ey, q2⟩
            have k3 := k1.trans k2
            refine h g' H' r3 ⟨k3.ms, k3.fm, k3.ff, k3.st, fun c q => (ob c q).elim (k3.ow c) fun e => .inl ⟨i, _, y1, by rw [e]; exact y2⟩, k3.th⟩ _ ⟨xs, a, vs, e2, e3, e4, z, t, f, m, fun q => ?_, none_back k1 h0⟩
            rcases ob a q with q | q
            · exact o q
            · rw [q, ou.at_] at h0
              cases h0
      | exc x s' => rw [hrun] at h; exact h.elim
      | stuck => rw [hrun] at h; exact h.elim
    · rw [if_neg ho] at h; exact h.elim
end
end Dd

/-! Dd13: statements. -/
namespace Dd
open L2 PyProof.Rows PySem.Spec PySem

/-- a def's result: a value that stays, or a list that is nobody's -/
def RetR (K : PySem.W.Frag) (en : Ent) (g : G) (H : Hp) (d : D) (o : Bool) (v : V) : Prop := RepR K en.H0 g H none_ d o v
def flowQ (K : PySem.W.Frag) (en : Ent) (Dn : Ends) (σ : L2.St) (g : G) (H : Hp) : Flow → Prop
  | .next => Dn.nx σ H
  | .brk => Dn.bk σ H
  | .cnt => Dn.ct σ H
  | .ret d o => ∀ v, RetR K en g H d o v → Dn.rt v H
def postS (K : PySem.W.Frag) (en : Ent) (W : WX) (Dn : Ends) (O : Addr → Prop) (g : G) (H : Hp) : Out Sta Flow → Prop
  | .ok f s' => ∀ σ' g' H', SR K en g' s' σ' H' → Keep O g H (Own s'.sl σ') g' H' → flowQ K en Dn σ' g' H' f
  | .exc x s' => ∀ cls dd σ' g' H', SR K en g' s' σ' H' → Keep O g H (Own s'.sl σ') g' H' → ExcRep K en.xc g' H' x cls dd → W cls dd σ' H'
  | .stuck => False
/-- a statement's reading -/
def tSt (K : PySem.W.Frag) (en : Ent) (W : WX) (f : Sta → Out Sta Flow) : TS := fun Dn σ H => ∃ g s, SR K en g s σ H ∧ postS K en W Dn (Own s.sl σ) g H (f s)
section
variable {K : PySem.W.Frag} {en : Ent} {W : WX} {Dn : Ends} {σ : L2.St} {O : Addr → Prop} {g : G} {H : Hp} {α : Type}
theorem postS_bind {o : Out Sta α} {f : α → Sta → Out Sta Flow} (h : postS K en W Dn O g H (o.bind f)) : post K en W σ O g H o fun a s' g' H' => postS K en W Dn O g H (f a s') := by
  cases o with
  | ok a s' => exact fun g' H' r k => h
  | exc x s' => exact fun cls dd g' H' r k ex => h cls dd σ g' H' r k ex
  | stuck => exact h
theorem postS_shift {O1 : Addr → Prop} {g1 : G} {H1 : Hp} {o : Out Sta Flow} (k : Keep O g H O1 g1 H1) (h : postS K en W Dn O g H o) : postS K en W Dn O1 g1 H1 o := by
  cases o with
  | ok a s' => exact fun σ' g' H' r kp => h σ' g' H' r (k.trans kp)
  | exc x s' => exact fun cls dd σ' g' H' r kp ex => h cls dd σ' g' H' r (k.trans kp) ex
  | stuck => exact h
theorem RepR.ret {s : Sta} {O' : Addr → Prop} {d : D} {o : Bool} {v : V} (hn : ∀ a, H a = none → en.H0 a = none) {g' : G} {H' : Hp} (q : RepR K H g' H' O' d o v) : RetR K en g' H' d o v := by
  cases o with
  | false => exact q
  | true =>
    obtain ⟨xs, a, vs, e1, e2, e3, z, t, f, m, _, h0⟩ := q
    exact ⟨xs, a, vs, e1, e2, e3, z, t, f, m, fun z => z, hn a h0⟩
/-- the slots' own lists behind a store -/
theorem own_set {s : Sta} {i : Nat} {d : D} {o : Bool} {v : V} {Hs : Hp} {g' : G} {H' : Hp} (hi : i < σ.length) (q : RepR K Hs g' H' (Own s.sl σ) d o v) : ∀ a, Own (s.sl.set i (some (d, o))) (σ.set i (some v)) a → Own s.sl σ a ∨ Hs a = none := by
  rintro a ⟨j, d', e1, e2⟩
  rcases set_get e1 with ⟨rfl, ey⟩ | ⟨hj, ey⟩
  · cases ey
    rw [List.getElem?_set_self hi] at e2
    cases e2
    obtain ⟨xs, b, vs, _, e, _, _, _, _, _, _, h0⟩ := q
    cases e
    exact .inr h0
  · rw [List.getElem?_set_ne (Ne.symm hj)] at e2
    exact .inl ⟨j, d', ey, e2⟩
theorem Keep.own {O O' O2 : Addr → Prop} {g g' : G} {H H' : Hp} (k : Keep O g H O' g' H') (h : ∀ a, O2 a → O' a ∨ H a = none) : Keep O g H O2 g' H' :=
  ⟨k.ms, k.fm, k.ff, k.st, fun a q => (h a q).elim (k.ow a) .inr, k.th⟩
end
section
variable {X : Cx} {en : Ent} {W : WX} {pos : Pos}
theorem sS_asg {i : Nat} {c : C} {σ : L2.St} {H : Hp} {Dn : Ends} (hi : i < en.n) (h : tSt X.K en W (exec (.asg i c)) Dn σ H) : tAsg (tSim X.K en W c) (gName i) Dn σ H := by
  obtain ⟨g, s, r, h⟩ := h
  have h : postS X.K en W Dn (Own s.sl σ) g H ((ev c s).bind fun d s => Out.ok Flow.next { s with sl := s.sl.set i (some d) }) := h
  refine (⟨g, s, r, post_imp (postS_bind h) fun d s' g' H' e r' k q v rep => ?_⟩ : tSim X.K en W c σ H _)
  have r2 := r'.set (fun a z => r.fresh0 z) (by rw [r'.nn]; exact hi) rep
  exact q _ g' H' r2 (k.own (own_set (by rw [← r'.len, r'.nn]; exact hi) rep))
theorem sS_ret {c : C} {σ : L2.St} {H : Hp} {Dn : Ends} (hc : ∀ i, c ≠ .var i) (h : tSt X.K en W (exec (.ret c)) Dn σ H) : tRet (tSim X.K en W c) Dn σ H := by
  obtain ⟨g, s, r, h⟩ := h
  have e : exec (.ret c) s = (ev c s).bind fun d s => Out.ok (Flow.ret d.1 d.2) s := by
    cases c <;> first | rfl | exact absurd rfl (hc _)
  rw [e] at h
  refine (⟨g, s, r, post_imp (postS_bind h) fun d s' g' H' e r' k q v rep => ?_⟩ : tSim X.K en W c σ H _)
  exact q σ g' H' r' k v (RepR.ret (s := s') (fun a z => r.fresh0 z) rep)
theorem sS_retv {i : Nat} {σ : L2.St} {H : Hp} {Dn : Ends} (h : tSt X.K en W (exec (.ret (.var i))) Dn σ H) : tRet (tVar i) Dn σ H := by
  obtain ⟨g, s, r, h⟩ := h
  have h : postS X.K en W Dn (Own s.sl σ) g H (match s.sl[i]? with
    | some (some (d, o)) => Out.ok (Flow.ret d o) s
    | _ => Out.stuck) := h
  cases hs : s.sl[i]? with
  | none => rw [hs] at h; exact h.elim
  | some x =>
    cases x with
    | none => rw [hs] at h; exact h.elim
    | some p =>
      obtain ⟨d, o⟩ := p
      rw [hs] at h
      obtain ⟨v, e1, q⟩ := r.slot i d o hs
      refine ⟨v, e1, h σ g H r Keep.refl v ?_⟩
      cases o with
      | false => exact q
      | true =>
        obtain ⟨xs, a, vs, e2, e3, e4, z, t⟩ := q
        subst e3
        have ow : Own s.sl σ a := ⟨i, d, hs, e1⟩
        have f := r.ownF a ow
        refine ⟨xs, a, vs, e2, rfl, e4, z, t, f.1, f.2, fun z => z, ?_⟩
        exact (r.keep.ow a ow).elim False.elim fun z => z
theorem sS_retN {σ : L2.St} {H : Hp} {Dn : Ends} (h : tSt X.K en W (exec .retN) Dn σ H) : tRetN Dn σ H := by
  obtain ⟨g, s, r, h⟩ := h
  have h : postS X.K en W Dn (Own s.sl σ) g H (Out.ok (Flow.ret .non false) s) := h
  exact h σ g H r Keep.refl .non .non
theorem sS_exp {c : C} {σ : L2.St} {H : Hp} {Dn : Ends} (h : tSt X.K en W (exec (.exp c)) Dn σ H) : tDrop (tSim X.K en W c) Dn σ H := by
  obtain ⟨g, s, r, h⟩ := h
  have h : postS X.K en W Dn (Own s.sl σ) g H ((ev c s).bind fun _ s => Out.ok Flow.next s) := h
  refine (⟨g, s, r, post_imp (postS_bind h) fun d s' g' H' e r' k q v rep => ?_⟩ : tSim X.K en W c σ H _)
  exact q σ g' H' r' k
theorem sS_brk {σ : L2.St} {H : Hp} {Dn : Ends} (h : tSt X.K en W (exec .brk) Dn σ H) : tBreak Dn σ H := by
  obtain ⟨g, s, r, h⟩ := h
  have h : postS X.K en W Dn (Own s.sl σ) g H (Out.ok Flow.brk s) := h
  exact h σ g H r Keep.refl
theorem sS_cnt {σ : L2.St} {H : Hp} {Dn : Ends} (h : tSt X.K en W (exec .cnt) Dn σ H) : tCont Dn σ H := by
  obtain ⟨g, s, r, h⟩ := h
  have h : postS X.K en W Dn (Own s.sl σ) g H (Out.ok Flow.cnt s) := h
  exact h σ g H r Keep.refl
theorem sS_pas {σ : L2.St} {H : Hp} {Dn : Ends} (h : tSt X.K en W (exec .pas) Dn σ H) : tNext Dn σ H := by
  obtain ⟨g, s, r, h⟩ := h
  have h : postS X.K en W Dn (Own s.sl σ) g H (Out.ok Flow.next s) := h
  exact h σ g H r Keep.refl
theorem sS_never {σ : L2.St} {H : Hp} {Dn : Ends} (h : tSt X.K en W (exec .never) Dn σ H) : tNever Dn σ H := by
  obtain ⟨g, s, r, h⟩ := h
  exact h.elim
theorem sS_ite {c : C} {a b : Ss} {σ : L2.St} {H : Hp} {Dn : Ends} (h : tSt X.K en W (exec (.ite c a b)) Dn σ H) : tIfS (tSimT X.K en W c) (tSt X.K en W (execs a)) (tSt X.K en W (execs b)) Dn σ H := by
  obtain ⟨g, s, r, h⟩ := h
  have h : postS X.K en W Dn (Own s.sl σ) g H ((ev c s).bind fun d s => match d.1 with
    | .bl true => execs a s
    | .bl false => execs b s
    | _ => Out.stuck) := h
  refine (⟨g, s, r, post_imp (postS_bind h) fun d s' g' H' e r' k q => ?_⟩ : tSimT X.K en W c σ H _)
  obtain ⟨d, o⟩ := d
  cases d with
  | bl t =>
    refine ⟨t, rfl, ?_⟩
    cases t with
    | true => exact ⟨g', s', r', postS_shift k q⟩
    | false => exact ⟨g', s', r', postS_shift k q⟩
  | _ => exact q.elim
theorem sSs_nil {σ : L2.St} {H : Hp} {Dn : Ends} (h : tSt X.K en W (execs .nil) Dn σ H) : tNext Dn σ H := by
  obtain ⟨g, s, r, h⟩ := h
  have h : postS X.K en W Dn (Own s.sl σ) g H (Out.ok Flow.next s) := h
  exact h σ g H r Keep.refl
theorem sSs_cons {a : S} {b : Ss} {σ : L2.St} {H : Hp} {Dn : Ends} (h : tSt X.K en W (execs (.cons a b)) Dn σ H) : tSeq (tSt X.K en W (exec a)) (tSt X.K en W (execs b)) Dn σ H := by
  obtain ⟨g, s, r, h⟩ := h
  have h : postS X.K en W Dn (Own s.sl σ) g H ((exec a s).bind fun f s => match f with
    | .next => execs b s
    | .brk => Out.ok .brk s
    | .cnt => Out.ok .cnt s
    | .ret d o => Out.ok (.ret d o) s) := h
  refine (⟨g, s, r, ?_⟩ : tSt X.K en W (exec a) _ σ H)
  cases he : exec a s with
  | ok f s' =>
    rw [he] at h
    intro σ' g' H' r' k
    cases f with
    | next => exact ⟨g', s', r', postS_shift k h⟩
    | brk => exact h σ' g' H' r' k
    | cnt => exact h σ' g' H' r' k
    | ret d o => exact h σ' g' H' r' k
  | exc x s' => rw [he] at h; exact h
  | stuck => rw [he] at h; exact h
/-- a loop's turns -/
theorem for_run {σ : L2.St} {g1 : G} {s1 : Sta} {H1 : Hp} {J : L2.It} {ds : List D} {tg : List Nat} {one : Bool} {b : Ss} {Dn : Ends} {O0 : Addr → Prop} {g0 : G} {H0 : Hp}
    (r1 : SR X.K en g1 s1 σ H1) (k1 : Keep O0 g0 H0 (Own s1.sl σ) g1 H1) {Hd : Addr → Prop} (w : WalkD X.K g1 H1 J ds Hd) (hn : ∀ b, ¬ Hd b) (htg : ∀ i ∈ tg, i < en.n)
    (h : postS X.K en W Dn O0 g0 H0 (forL (fun d s => match tgt s.sl tg one d with
      | some sl => execs b { s with sl := sl }
      | none => Out.stuck) ds s1)) :
    ∃ V : Nat → Nat → L2.St → Hp → Prop, (∃ m, V 0 m σ H1) ∧ ∀ i m σ H, V i m σ H →
      (J.stop i H ∧ Dn.nx σ H) ∨ (J.go i H ∧ ∃ N : L2.St → Hp → Prop, (∀ σ' H', N σ' H' → ∃ m', m' < m ∧ V (i + 1) m' σ' H') ∧ ∀ x H', J.yld i H x H' → gT X.K tg one x σ H' fun σ2 H2 => tSt X.K en W (execs b) { Dn with nx := N, ct := N, bk := Dn.nx } σ2 H2) := by
  obtain ⟨hz, St, st0, keep, goes, stops, yields⟩ := w
  let Pv : Nat → L2.St → Hp → Prop := fun i σ H => ∃ g s, SR X.K en g s σ H ∧ St g H ∧ Keep O0 g0 H0 (Own s.sl σ) g H ∧ postS X.K en W Dn O0 g0 H0 (forL (fun d s => match tgt s.sl tg one d with
      | some sl => execs b { s with sl := sl }
      | none => Out.stuck) (ds.drop i) s)
  refine ⟨fun i m σ H => m = ds.length - i ∧ i ≤ ds.length ∧ Pv i σ H, ⟨ds.length, by simp, Nat.zero_le _, g1, s1, r1, st0, k1, h⟩, ?_⟩
  rintro i m σ H ⟨rfl, hi, g, s, r, st, k, h⟩
  by_cases hlt : i < ds.length
  · refine .inr ⟨goes i g H hlt st, Pv (i + 1), fun σ' H' p => ⟨ds.length - (i + 1), by omega, rfl, hlt, p⟩, fun x H' y => ?_⟩
    obtain ⟨hsame, hrep⟩ := yields i g H x H' st y
    obtain ⟨d, hd⟩ := get_lt hlt
    have rx := hrep d hd _ r.apart
    have kk : Keep (Own s.sl σ) g H (Own s.sl σ) g H' := Keep.same hsame
    have r' := r.same hsame
    have st' := keep _ _ _ _ _ _ kk r.apart (fun b z => absurd z (hn b)) st
    have k' := k.trans kk
    have hdrop : ds.drop i = d :: ds.drop (i + 1) := by
      rw [List.drop_eq_getElem_cons hlt]
      congr 1
      exact (List.getElem?_eq_some_iff.mp hd).2
    rw [hdrop] at h
    cases htg2 : tgt s.sl tg one d with
    | none =>
      have h : postS X.K en W Dn O0 g0 H0 ((match tgt s.sl tg one d with
        | some sl => execs b { s with sl := sl }
        | none => Out.stuck).bind _) := h
      rw [htg2] at h
      exact h.elim
    | some sl =>
      have h : postS X.K en W Dn O0 g0 H0 ((match tgt s.sl tg one d with
        | some sl => execs b { s with sl := sl }
        | none => Out.stuck).bind fun f s => match f with
          | .next => forL (fun d s => match tgt s.sl tg one d with
            | some sl => execs b { s with sl := sl }
            | none => Out.stuck) (ds.drop (i + 1)) s
          | .cnt => forL (fun d s => match tgt s.sl tg one d with
            | some sl => execs b { s with sl := sl }
            | none => Out.stuck) (ds.drop (i + 1)) s
          | .brk => Out.ok .next s
          | .ret d o => Out.ok (.ret d o) s) := h
      rw [htg2] at h
      refine tgt_run r' rx htg2 (fun j hj => by rw [r'.nn]; exact htg j hj) fun σ2 r2 hσ hσl own2 => ?_
      have k2 : Keep O0 g0 H0 (Own sl σ2) g H' := k'.less own2
      have kl : Keep (Own s.sl σ) g H' (Own sl σ2) g H' := Keep.refl.less own2
      refine ⟨g, { s with sl := sl }, r2, ?_⟩
      have h : postS X.K en W Dn O0 g0 H0 ((execs b { s with sl := sl }).bind fun f s => match f with
          | .next => forL (fun d s => match tgt s.sl tg one d with
            | some sl => execs b { s with sl := sl }
            | none => Out.stuck) (ds.drop (i + 1)) s
          | .cnt => forL (fun d s => match tgt s.sl tg one d with
            | some sl => execs b { s with sl := sl }
            | none => Out.stuck) (ds.drop (i + 1)) s
          | .brk => Out.ok .next s
          | .ret d o => Out.ok (.ret d o) s) := h
      cases he : execs b { s with sl := sl } with
      | ok f s3 =>
        rw [he] at h
        intro σ3 g3 H3 r3 k3
        have stn := keep _ _ _ _ _ _ (kl.trans k3) r'.apart (fun b z => absurd z (hn b)) st'
        cases f with
        | next => exact ⟨g3, s3, r3, stn, k2.trans k3, h⟩
        | cnt => exact ⟨g3, s3, r3, stn, k2.trans k3, h⟩
        | brk => exact h σ3 g3 H3 r3 (k2.trans k3)
        | ret d o => exact h σ3 g3 H3 r3 (k2.trans k3)
      | exc x s3 =>
        rw [he] at h
        exact fun cls dd σ3 g3 H3 r3 k3 ex => h cls dd σ3 g3 H3 r3 (k2.trans k3) ex
      | stuck => rw [he] at h; exact h
  · have ei : i = ds.length := by omega
    subst ei
    refine .inl ⟨stops g H st, ?_⟩
    rw [List.drop_length] at h
    exact h σ g H r k
theorem sS_fr {tg : List Nat} {one : Bool} {it : It} {b : Ss} {σ : L2.St} {H : Hp} {Dn : Ends} (hh : it.hid = none) (htg : ∀ i ∈ tg, i < en.n) (h : tSt X.K en W (exec (.fr tg one it b)) Dn σ H) :
    tFor (tIt X.K en W it) (gT X.K tg one) (tSt X.K en W (execs b)) Dn σ H := by
  obtain ⟨g, s, r, h⟩ := h
  have h : postS X.K en W Dn (Own s.sl σ) g H ((evi it s).bind fun ds s => forL (fun d s => match tgt s.sl tg one d with
    | some sl => execs b { s with sl := sl }
    | none => Out.stuck) ds s) := h
  refine (⟨g, s, r, post_imp (postS_bind h) fun ds s' g' H' e r' k q J w hid => ?_⟩ : tIt X.K en W it σ H _)
  exact for_run r' k w (fun b z => by unfold hidA at z; rw [hh] at z; exact z) htg q
theorem sS_whl {n : Nat} {c : C} {b : Ss} {σ : L2.St} {H : Hp} {Dn : Ends} (h : tSt X.K en W (exec (.whl n c b)) Dn σ H) : tWhile (tSimT X.K en W c) (tSt X.K en W (execs b)) Dn σ H := by
  obtain ⟨g, s, r, h⟩ := h
  let test : Sta → Out Sta Bool := fun s => (ev c s).bind fun d s => match d.1 with
    | .bl b => Out.ok b s
    | _ => Out.stuck
  have h : postS X.K en W Dn (Own s.sl σ) g H (whileL test (fun s => execs b s) n s) := h
  refine ⟨fun m σ1 H1 => ∃ g1 s1, SR X.K en g1 s1 σ1 H1 ∧ Keep (Own s.sl σ) g H (Own s1.sl σ1) g1 H1 ∧ postS X.K en W Dn (Own s.sl σ) g H (whileL test (fun s => execs b s) m s1), ⟨n, g, s, r, Keep.refl, h⟩, ?_⟩
  rintro m σ1 H1 ⟨g1, s1, r1, k1, h⟩
  cases m with
  | zero => exact h.elim
  | succ m =>
    have h : postS X.K en W Dn (Own s.sl σ) g H (((ev c s1).bind fun d s => match d.1 with
        | .bl b => Out.ok b s
        | _ => Out.stuck).bind fun t s => match t with
        | false => Out.ok .next s
        | true => (execs b s).bind fun f s => match f with
          | .next => whileL test (fun s => execs b s) m s
          | .cnt => whileL test (fun s => execs b s) m s
          | .brk => Out.ok .next s
          | .ret d o => Out.ok (.ret d o) s) := h
    refine (⟨g1, s1, r1, ?_⟩ : tSimT X.K en W c σ1 H1 _)
    cases hc : ev c s1 with
    | stuck => rw [hc] at h; exact h
    | exc x s2 =>
      rw [hc] at h
      exact fun cls dd g2 H2 r2 k2 ex => h cls dd σ1 g2 H2 r2 (k1.trans k2) ex
    | ok d s2 =>
      rw [hc] at h
      intro g2 H2 r2 k2
      obtain ⟨d, o⟩ := d
      cases d with
      | bl t =>
        refine ⟨t, rfl, ?_⟩
        cases t with
        | false =>
          rw [if_neg Bool.false_ne_true]
          have h : postS X.K en W Dn (Own s.sl σ) g H (Out.ok Flow.next s2) := h
          exact h σ1 g2 H2 r2 (k1.trans k2)
        | true =>
          rw [if_pos rfl]
          have h : postS X.K en W Dn (Own s.sl σ) g H ((execs b s2).bind fun f s => match f with
            | .next => whileL test (fun s => execs b s) m s
            | .cnt => whileL test (fun s => execs b s) m s
            | .brk => Out.ok .next s
            | .ret d o => Out.ok (.ret d o) s) := h
          refine ⟨fun σ3 H3 => ∃ g1 s1, SR X.K en g1 s1 σ3 H3 ∧ Keep (Own s.sl σ) g H (Own s1.sl σ3) g1 H3 ∧ postS X.K en W Dn (Own s.sl σ) g H (whileL test (fun s => execs b s) m s1), fun σ3 H3 p => ⟨m, Nat.lt_succ_self m, p⟩, g2, s2, r2, ?_⟩
          cases he : execs b s2 with
          | ok f s3 =>
            rw [he] at h
            intro σ3 g3 H3 r3 k3
            have kk := (k1.trans k2).trans k3
            cases f with
            | next => exact ⟨g3, s3, r3, kk, h⟩
            | cnt => exact ⟨g3, s3, r3, kk, h⟩
            | brk => exact h σ3 g3 H3 r3 kk
            | ret d o => exact h σ3 g3 H3 r3 kk
          | exc x s3 =>
            rw [he] at h
            exact fun cls dd σ3 g3 H3 r3 k3 ex => h cls dd σ3 g3 H3 r3 ((k1.trans k2).trans k3) ex
          | stuck => rw [he] at h; exact h
      | _ => exact h.elim
end
end Dd

/-! Dd14: more stores. -/
namespace Dd
open L2 PyProof.Rows PySem.Spec PySem

section
variable {K : PySem.W.Frag} {en : Ent} {W : WX} {σ : L2.St} {g : G} {H : Hp}
/-- values that are to be stored, some nobody's lists -/
inductive FRs (K : PySem.W.Frag) (h0 : Hp) (g : G) (H : Hp) : (Addr → Prop) → List (D × Bool) → List V → Prop
  | nil {O : Addr → Prop} : FRs K h0 g H O [] []
  | cons {O : Addr → Prop} {d : D} {o : Bool} {v : V} {ds : List (D × Bool)} {vs : List V} : RepR K h0 g H O d o v → FRs K h0 g H (fun a => O a ∨ (o = true ∧ v = .ref a)) ds vs → FRs K h0 g H O ((d, o) :: ds) (v :: vs)
theorem FRs.wide {h1 h0 : Hp} {O : Addr → Prop} {ds : List (D × Bool)} {vs : List V} (q : FRs K h1 g H O ds vs) : ∀ {O2 : Addr → Prop}, (∀ b, h1 b = none → h0 b = none) → (∀ b, O2 b → O b ∨ h1 b ≠ none) → FRs K h0 g H O2 ds vs := by
  induction q with
  | nil => exact fun _ _ => .nil
  | cons r t ih =>
    rename_i O d o v ds vs
    intro O2 hb ho
    refine .cons ?_ (ih hb fun b h => ?_)
    · cases o with
      | false => exact r
      | true =>
        obtain ⟨xs, a, vs', e1, e2, e3, z, t', f, m, n, h⟩ := r
        exact ⟨xs, a, vs', e1, e2, e3, z, t', f, m, fun q => (ho a q).elim n fun q => q h, hb a h⟩
    · rcases h with h | h
      · exact (ho b h).elim (fun z => .inl (.inl z)) .inr
      · exact .inl (.inr h)
theorem RepR.keep {h0 : Hp} {O O' : Addr → Prop} {g' : G} {H' : Hp} (k : Keep O g H O' g' H') (p : Apart O g H) {d : D} {o : Bool} {v : V} (q : RepR K h0 g H O d o v) : RepR K h0 g' H' O' d o v := by
  cases o with
  | false => exact Rep.keep k p q
  | true =>
    obtain ⟨xs, a, vs, e1, e2, e3, z, t, f, m, n, h⟩ := q
    have ou : Out_ g O H a vs := ⟨e3, f, m, n⟩
    have ou' := ou.keep k
    exact ⟨xs, a, vs, e1, e2, ou'.at_, z, t.keep k p, ou'.nF, ou'.nM, ou'.nO, h⟩
theorem FRs.same {h0 : Hp} {H' : Hp} (hs : ∀ a o, H a = some o → H' a = some o) {O0 : Addr → Prop} (p : Apart O0 g H) {O : Addr → Prop} {ds : List (D × Bool)} {vs : List V} (q : FRs K h0 g H O ds vs) : FRs K h0 g H' O ds vs := by
  have k : Keep O0 g H O0 g H' := Keep.same hs
  induction q with
  | nil => exact .nil
  | cons r t ih =>
    rename_i O d o v ds vs
    refine .cons ?_ ih
    cases o with
    | false => exact Rep.keep k p r
    | true =>
      obtain ⟨xs, a, vs', e1, e2, e3, z, t', f, m, n, h⟩ := r
      exact ⟨xs, a, vs', e1, e2, hs a _ e3, z, t'.keep k p, f, m, n, h⟩
theorem FRs.len {h0 : Hp} {O : Addr → Prop} {ds : List (D × Bool)} {vs : List V} (q : FRs K h0 g H O ds vs) : ds.length = vs.length := by
  induction q with
  | nil => rfl
  | cons _ _ ih => simp only [List.length_cons, ih]
def setV (σ : L2.St) : List Nat → List V → L2.St
  | i :: is, v :: vs => setV (σ.set i (some v)) is vs
  | _, _ => σ
theorem setAll_run {h0 : Hp} (hn : ∀ a, h0 a = none → en.H0 a = none) : ∀ {is : List Nat} {ds : List (D × Bool)} {vs : List V} {s : Sta} {σ : L2.St} {sl : Slots}, SR K en g s σ H → FRs K h0 g H (Own s.sl σ) ds vs → setAll s.sl is ds = some sl → (∀ i ∈ is, i < en.n) →
    SR K en g { s with sl := sl } (setV σ is vs) H ∧ ∀ a, Own sl (setV σ is vs) a → Own s.sl σ a ∨ h0 a = none
  | [], _, _, s, σ, sl, r, .nil, h, _ => by
    cases h
    exact ⟨r, fun a q => .inl q⟩
  | [], _, _, s, σ, sl, r, .cons _ _, h, _ => by cases h
  | _ :: _, _, _, s, σ, sl, r, .nil, h, _ => by cases h
  | i :: is, _, _, s, σ, sl, r, .cons (d := d) (o := o) (v := v) (ds := ds) (vs := vs) q t, h, hi => by
    have hi0 : i < s.sl.length := by rw [r.nn]; exact hi i List.mem_cons_self
    have r1 := r.set hn hi0 q
    have o1 := own_set (σ := σ) (s := s) (i := i) (by rw [← r.len]; exact hi0) q
    have sub : ∀ a, Own (s.sl.set i (some (d, o))) (σ.set i (some v)) a → Own s.sl σ a ∨ (o = true ∧ v = .ref a) := by
      rintro a ⟨j, d', e1, e2⟩
      rcases set_get e1 with ⟨rfl, ey⟩ | ⟨hj, ey⟩
      · cases ey
        rw [List.getElem?_set_self (by rw [← r.len]; exact hi0)] at e2
        cases e2
        exact .inr ⟨rfl, rfl⟩
      · rw [List.getElem?_set_ne (Ne.symm hj)] at e2
        exact .inl ⟨j, d', ey, e2⟩
    have t' : FRs K h0 g H (Own (s.sl.set i (some (d, o))) (σ.set i (some v))) ds vs := t.wide (fun _ z => z) fun b h => .inl (sub b h)
    obtain ⟨r2, o2⟩ := setAll_run hn (s := { s with sl := s.sl.set i (some (d, o)) }) (σ := σ.set i (some v)) r1 t' h fun j hj => hi j (List.mem_cons_of_mem _ hj)
    exact ⟨r2, fun a q => (o2 a q).elim (o1 a) .inr⟩
def tSimFs (K : PySem.W.Frag) (en : Ent) (W : WX) (cs : Cs) : TA := fun σ H Q => ∃ g s, SR K en g s σ H ∧
  post K en W σ (Own s.sl σ) g H (evf cs s) fun ds s' g' H' => ∀ vs, FRs K H g' H' (Own s'.sl σ) ds vs → Q vs H'
end
section
variable {X : Cx} {en : Ent} {W : WX} {pos : Pos}
theorem simf_nil : PA X [] (tSimFs X.K en W .nil) := pa_nil.impD fun σ H Q q => by
  obtain ⟨g, s, r, q⟩ := q
  exact q g H r Keep.refl [] .nil
theorem simf_cons {e : Expr} {es : List Expr} {c : C} {cs : Cs} (h : PE X e (tSim X.K en W c)) (hs : PA X es (tSimFs X.K en W cs)) (he : starEach (e :: es) X.env = (false, eval e X.env) :: starEach es X.env) :
    PA X (e :: es) (tSimFs X.K en W (.cons c cs)) := (pa_cons h hs he).impD fun σ H Q q => by
  obtain ⟨g, s, r, q⟩ := q
  have q : post X.K en W σ (Own s.sl σ) g H ((ev c s).bind fun d s => (evf cs s).bind fun ds s => Out.ok (d :: ds) s) _ := q
  refine (⟨g, s, r, post_imp (post_bind q) fun a s' g' H' e1 r' k q v rep => ?_⟩ : tSim X.K en W c σ H _)
  refine (⟨g', s', r', post_imp (post_bind q) fun ds s2 g2 H2 e2 r2 k2 q2 vs reps => ?_⟩ : tSimFs X.K en W cs σ H' _)
  obtain ⟨d, o⟩ := a
  have rep2 := rep.keep k2 r'.apart
  refine q2 g2 H2 r2 Keep.refl (v :: vs) (.cons rep2 (reps.wide (fun b z => none_back k z) fun b h => ?_))
  rcases h with h | ⟨ho, hv⟩
  · exact .inl h
  · subst ho
    obtain ⟨xs, a, ws, e1, e2, e3, _⟩ := rep
    rw [e2] at hv
    cases hv
    exact .inr (by rw [e3]; exact Option.some_ne_none _)
theorem sS_unp {is : List Nat} {c : C} {σ : L2.St} {H : Hp} {Dn : Ends} (hi : ∀ i ∈ is, i < en.n) (h : tSt X.K en W (exec (.unp is c)) Dn σ H) : tAsg (tSim X.K en W c) (gT X.K is false) Dn σ H := by
  obtain ⟨g, s, r, h⟩ := h
  have h : postS X.K en W Dn (Own s.sl σ) g H ((ev c s).bind fun d s => match tgt s.sl is false d.1 with
    | some sl => Out.ok Flow.next { s with sl := sl }
    | none => Out.stuck) := h
  refine tSim_F (⟨g, s, r, post_imp (postS_bind h) fun d s' g' H' e r' k q v rep => ?_⟩)
  cases ht : tgt s'.sl is false d.1 with
  | none => rw [ht] at q; exact q.elim
  | some sl =>
    rw [ht] at q
    refine tgt_run r' rep ht (fun j hj => by rw [r'.nn]; exact hi j hj) fun σ' r2 _ _ own2 => ?_
    exact q σ' g' H' r2 (k.less own2)
/-- the stores of a, b = x, y -/
theorem par_as {is : List Nat} {cs : Cs} {σ : L2.St} {H : Hp} {Dn : Ends} (hi : ∀ i ∈ is, i < en.n) (h : tSt X.K en W (exec (.par is cs)) Dn σ H) : tSimFs X.K en W cs σ H fun vs H1 => vs.length = is.length ∧ ∀ H', (∀ a o, H1 a = some o → H' a = some o) → Dn.nx (setV σ is vs) H' := by
  obtain ⟨g, s, r, h⟩ := h
  have h : postS X.K en W Dn (Own s.sl σ) g H ((evf cs s).bind fun ds s => match setAll s.sl is ds with
    | some sl => Out.ok Flow.next { s with sl := sl }
    | none => Out.stuck) := h
  refine ⟨g, s, r, post_imp (postS_bind h) fun ds s' g' H' e r' k q vs fr => ?_⟩
  cases ht : setAll s'.sl is ds with
  | none => rw [ht] at q; exact q.elim
  | some sl =>
    rw [ht] at q
    have el : ∀ {is : List Nat} {ds : List (D × Bool)} {s0 sl : Slots}, setAll s0 is ds = some sl → ds.length = is.length := by
      intro is
      induction is with
      | nil =>
        intro ds s0 sl h
        cases ds with
        | nil => rfl
        | cons _ _ => cases h
      | cons i is ih =>
        intro ds s0 sl h
        cases ds with
        | nil => cases h
        | cons d ds => simp only [List.length_cons, ih (by exact h)]
    refine ⟨by rw [← fr.len]; exact el ht, fun H2 hs => ?_⟩
    have r2 := r'.same hs
    have k2 := k.trans (Keep.same (O := Own s'.sl σ) (g := g') hs)
    obtain ⟨r3, o3⟩ := setAll_run (fun a z => r.fresh0 z) r2 (fr.same hs r'.apart) ht hi
    exact q _ g' H2 r3 (k2.own o3)
theorem list2' {α : Type} {vs : List α} (h : vs.length = 2) : ∃ a b, vs = [a, b] := by
  match vs, h with
  | [a, b], _ => exact ⟨a, b, rfl⟩
theorem list3' {α : Type} {vs : List α} (h : vs.length = 3) : ∃ a b c, vs = [a, b, c] := by
  match vs, h with
  | [a, b, c], _ => exact ⟨a, b, c, rfl⟩
theorem sS_par2 {i j : Nat} {cs : Cs} {σ : L2.St} {H : Hp} {Dn : Ends} (hi : ∀ k ∈ [i, j], k < en.n) (h : tSt X.K en W (exec (.par [i, j] cs)) Dn σ H) : tPar i j (tSimFs X.K en W cs) Dn σ H := by
  obtain ⟨g, s, r, q⟩ := par_as hi h
  refine ⟨g, s, r, post_imp q fun ds s' g' H' e r' k q vs fr => ?_⟩
  obtain ⟨hl, q⟩ := q vs fr
  obtain ⟨a, b, rfl⟩ := list2' hl
  exact ⟨a, b, rfl, q H' fun _ _ z => z⟩
theorem sS_par3 {i j l : Nat} {cs : Cs} {σ : L2.St} {H : Hp} {Dn : Ends} (hi : ∀ k ∈ [i, j, l], k < en.n) (h : tSt X.K en W (exec (.par [i, j, l] cs)) Dn σ H) : tPar3 i j l (tSimFs X.K en W cs) Dn σ H := by
  obtain ⟨g, s, r, q⟩ := par_as hi h
  refine ⟨g, s, r, post_imp q fun ds s' g' H' e r' k q vs fr => ?_⟩
  obtain ⟨hl, q⟩ := q vs fr
  obtain ⟨a, b, c, rfl⟩ := list3' hl
  exact ⟨a, b, c, rfl, q H' fun _ _ z => z⟩
theorem gNs_set : ∀ {is : List Nat} {vs : List V} {σ : L2.St} {H : Hp} {Q : L2.St → Hp → Prop}, vs.length = is.length → Q (setV σ is vs) H → gNs is vs σ H Q
  | [], [], _, _, _, _, q => ⟨rfl, q⟩
  | i :: is, v :: vs, σ, H, Q, h, q => ⟨v, vs, rfl, gNs_set (is := is) (vs := vs) (σ := σ.set i (some v)) (by simpa using h) q⟩
/-- .. through a tuple -/
theorem sS_parT {is : List Nat} {cs : Cs} {σ : L2.St} {H : Hp} {Dn : Ends} {es : List Expr} {k : Nat} (hi : ∀ i ∈ is, i < en.n) (hz : is.length ≤ sizeLine) (ha : PA X es (tSimFs X.K en W cs)) : PE X (.Tuple es k pos) (fun σ H Q => tSimFs X.K en W cs σ H fun vs H1 => vs.length ≤ sizeLine ∧ ∀ p, H1 p = none → Q (.ref p) (upd H1 p (.tup vs))) := pe_tup ha
theorem sS_parT' {is : List Nat} {cs : Cs} {σ : L2.St} {H : Hp} {Dn : Ends} (hi : ∀ i ∈ is, i < en.n) (hz : is.length ≤ sizeLine) (h : tSt X.K en W (exec (.par is cs)) Dn σ H) :
    tAsg (fun σ H Q => tSimFs X.K en W cs σ H fun vs H1 => vs.length ≤ sizeLine ∧ ∀ p, H1 p = none → Q (.ref p) (upd H1 p (.tup vs))) (gT X.K is false) Dn σ H := by
  obtain ⟨g, s, r, q⟩ := par_as hi h
  refine (⟨g, s, r, post_imp q fun ds s' g' H' e r' k q vs fr => ?_⟩ : tSimFs X.K en W cs σ H _)
  obtain ⟨hl, q⟩ := q vs fr
  refine ⟨by rw [hl]; exact hz, fun p hp => ⟨p, vs, rfl, .inl (.inl upd_same), hl, ?_⟩⟩
  exact gNs_set hl (q _ (same_upd hp))
theorem ixN_of {n k : Nat} {i : Int} (h : ixD n i = some k) : ixN n i = some k := by
  unfold ixN
  exact h
theorem sS_setix {r i c : C} {σ : L2.St} {H : Hp} {Dn : Ends} (h : tSt X.K en W (exec (.setix r i c)) Dn σ H) : tAsg (tSim X.K en W c) (gSub (tSimO X.K en W r) (tSim X.K en W i) rSetL) Dn σ H := by
  obtain ⟨g, s, rr, h⟩ := h
  have h : postS X.K en W Dn (Own s.sl σ) g H ((ev c s).bind fun d s => (opdOf r (ev r) s).bind fun o s => (ev i s).bind fun k s =>
      (chg s o (fun xs => setX xs k.1 d.1)).bind fun _ s => Out.ok Flow.next s) := h
  refine tSim_F ⟨g, s, rr, post_imp (postS_bind h) fun d s1 g1 H1 e1 r1 k1 h v rv => ?_⟩
  refine (⟨g1, s1, r1, post_imp (post_imp (postS_bind (postS_shift k1 h)) fun _ _ _ _ _ _ _ z => z) fun o s2 g2 H2 e2 r2 k2 h ov ro => ?_⟩ : tSimO X.K en W r σ H1 _)
  refine tSim_F ⟨g2, s2, r2, post_imp (postS_bind (postS_shift k2 h)) fun k s3 g3 H3 e3 r3 k3 h iv ri => ?_⟩
  have rv3 := (rv.keep k2 r1.apart).keep k3 r2.apart
  have ro3 := ro.keep k3 r2.apart
  cases hc : chg s3 o (fun xs => setX xs k.1 d.1) with
  | stuck => rw [hc] at h; exact h.elim
  | exc x s4 =>
    exfalso
    revert hc
    unfold chg
    intro hc
    repeat' split at hc
    all_goals cases hc
  | ok d2 s4 =>
    rw [hc] at h
    obtain ⟨a, xs, us, ys, eV, e4, t, z, hf, fin⟩ := chg_as r3 ro3 hc
    unfold setX at hf
    split at hf
    · rename_i n hk
      rw [hk] at ri
      cases ri
      split at hf
      · rename_i j hj
        cases hf
        have hl := t.length
        have r4 := fin (us.set j v) (by rw [List.length_set]; exact z) (t.set rv3 j)
        refine ⟨a, us, n, j, eV, rfl, e4, by rw [← hl]; exact ixN_of hj, ?_⟩
        exact h σ g3 _ r4.1 (k3.trans r4.2)
      · cases hf
    · cases hf
theorem set_as {r i : C} {d : D} {v : V} {ds : List D} {vs : List V} {rest : Sta → Out Sta Flow} {σ : L2.St} {H : Hp} {Dn : Ends} {g : G} {s : Sta} (rr : SR X.K en g s σ H) (rv : Rep X.K g H d v) (rs : Reps X.K g H ds vs)
    (h : postS X.K en W Dn (Own s.sl σ) g H ((opdOf r (ev r) s).bind fun o s => (ev i s).bind fun k s => (chg s o (fun xs => setX xs k.1 d)).bind fun _ s => rest s)) :
    gSub (tSimO X.K en W r) (tSim X.K en W i) rSetL v σ H fun σ' H3 => σ' = σ ∧ ∃ g3 s3, SR X.K en g3 s3 σ H3 ∧ Reps X.K g3 H3 ds vs ∧ postS X.K en W Dn (Own s3.sl σ) g3 H3 (rest s3) := by
  refine (⟨g, s, rr, post_imp (postS_bind h) fun o s2 g2 H2 e2 r2 k2 h ov ro => ?_⟩ : tSimO X.K en W r σ H _)
  refine tSim_F ⟨g2, s2, r2, post_imp (postS_bind (postS_shift k2 h)) fun k s3 g3 H3 e3 r3 k3 h iv ri => ?_⟩
  have rv3 := (rv.keep k2 rr.apart).keep k3 r2.apart
  have rs3 := (rs.keep k2 rr.apart).keep k3 r2.apart
  have ro3 := ro.keep k3 r2.apart
  cases hc : chg s3 o (fun xs => setX xs k.1 d) with
  | stuck => rw [hc] at h; exact h.elim
  | exc x s4 =>
    exfalso
    revert hc
    unfold chg
    intro hc
    repeat' split at hc
    all_goals cases hc
  | ok d2 s4 =>
    rw [hc] at h
    obtain ⟨a, xs, us, ys, eV, e4, t, z, hf, fin⟩ := chg_as r3 ro3 hc
    unfold setX at hf
    split at hf
    · rename_i n hk
      rw [hk] at ri
      cases ri
      split at hf
      · rename_i j hj
        cases hf
        have hl := t.length
        have r4 := fin (us.set j v) (by rw [List.length_set]; exact z) (t.set rv3 j)
        refine ⟨a, us, n, j, eV, rfl, e4, by rw [← hl]; exact ixN_of hj, rfl, g3, s4, r4.1, rs3.keep r4.2 r3.apart, ?_⟩
        exact postS_shift (k3.trans r4.2) h
      · cases hf
    · cases hf
def gSet2 (K : PySem.W.Frag) (en : Ent) (W : WX) (r1 i1 r2 i2 : C) : TG := gTup K 2 (gCons (gSub (tSimO K en W r1) (tSim K en W i1) rSetL) (gCons (gSub (tSimO K en W r2) (tSim K en W i2) rSetL) gNil))
theorem gSub_mono {to ti : TE} {t : TSet} {v : V} {σ : L2.St} {H : Hp} {Q Q' : L2.St → Hp → Prop} (h : gSub to ti t v σ H Q) (w : ∀ H', Q σ H' → Q' σ H') (mo : ∀ {A B : VK}, (∀ v H, A v H → B v H) → ∀ {σ : L2.St} {H : Hp}, to σ H A → to σ H B) (mi : ∀ {A B : VK}, (∀ v H, A v H → B v H) → ∀ {σ : L2.St} {H : Hp}, ti σ H A → ti σ H B)
    (mt : ∀ {o i v : V} {H : Hp} {A B : Hp → Prop}, (∀ H, A H → B H) → t o i v H A → t o i v H B) : gSub to ti t v σ H Q' :=
  mo (fun o H1 q => mi (fun i H2 q => mt (fun H3 q => w H3 q) q) q) h
theorem sS_set2 {r1 i1 r2 i2 : C} {cs : Cs} {σ : L2.St} {H : Hp} {Dn : Ends} (h : tSt X.K en W (exec (.set2 r1 i1 r2 i2 cs)) Dn σ H) :
    tAsg (fun σ H Q => tSims X.K en W cs σ H fun vs H1 => vs.length ≤ sizeLine ∧ ∀ p, H1 p = none → Q (.ref p) (upd H1 p (.tup vs))) (gSet2 X.K en W r1 i1 r2 i2) Dn σ H := by
  obtain ⟨g, s, rr, h⟩ := h
  have h : postS X.K en W Dn (Own s.sl σ) g H ((evs cs s).bind fun ds s => match ds with
    | [d1, d2] => (opdOf r1 (ev r1) s).bind fun o s => (ev i1 s).bind fun k s => (chg s o (fun xs => setX xs k.1 d1)).bind fun _ s =>
      (opdOf r2 (ev r2) s).bind fun o s => (ev i2 s).bind fun k s => (chg s o (fun xs => setX xs k.1 d2)).bind fun _ s => Out.ok Flow.next s
    | _ => Out.stuck) := h
  refine (⟨g, s, rr, post_imp (postS_bind h) fun ds s1 g1 H1 e1 r1' k1 h vs rs => ?_⟩ : tSims X.K en W cs σ H _)
  split at h
  · rename_i d1 d2
    have h := postS_shift k1 h
    match vs, rs with
    | [v1, v2], rs =>
      cases rs with
      | cons q1 rs =>
        cases rs with
        | cons q2 rs =>
          refine ⟨by rw [sizeLine_eq]; show 2 ≤ _; omega, fun p hp => ⟨p, [v1, v2], rfl, .inl (.inl upd_same), rfl, ?_⟩⟩
          have up := same_upd (o := HO.tup [v1, v2]) hp
          have rn := r1'.same up
          have kn : Keep (Own s1.sl σ) g1 H1 (Own s1.sl σ) g1 (upd H1 p (.tup [v1, v2])) := Keep.same up
          refine ⟨v1, [v2], rfl, ?_⟩
          have a1 := set_as (W := W) (ds := [d2]) (vs := [v2]) (rest := fun s => (opdOf r2 (ev r2) s).bind fun o s => (ev i2 s).bind fun k s => (chg s o (fun xs => setX xs k.1 d2)).bind fun _ s => Out.ok Flow.next s) rn (q1.keep kn r1'.apart) (.cons (q2.keep kn r1'.apart) .nil) (postS_shift kn h)
          refine tSimO_mono a1 fun o H2 a1 => ?_
          obtain ⟨g5, s5, r5, a1⟩ := a1
          refine ⟨g5, s5, r5, post_imp a1 fun r s' g' H' e1 r' k q v rep => ?_⟩
          obtain ⟨a, us, n, j, eV, eI, e4, hj, _, g3, s3, r3, rs3, h3⟩ := q v rep
          refine ⟨a, us, n, j, eV, eI, e4, hj, v2, [], rfl, ?_⟩
          cases rs3 with
          | cons q3 _ =>
            have a2 := set_as (W := W) (ds := []) (vs := []) (rest := fun s => Out.ok Flow.next s) r3 q3 .nil h3
            refine tSimO_mono a2 fun o H2 a2 => ?_
            obtain ⟨g6, s6, r6, a2⟩ := a2
            refine ⟨g6, s6, r6, post_imp a2 fun r s' g' H' e1 r' k q v rep => ?_⟩
            obtain ⟨b, us2, n2, j2, eV2, eI2, e42, hj2, _, g4, s4, r4, _, h4⟩ := q v rep
            exact ⟨b, us2, n2, j2, eV2, eI2, e42, hj2, rfl, h4 σ g4 _ r4 Keep.refl⟩
  · exact h.elim
end
end Dd

/-! Dd15: a look whether a core term is a text's own. -/
namespace Dd
open L2 PyProof.Rows PySem.Spec PySem

structure Ck where
  N : List Str
  sc : Scope
  fnb : Str → Bool
  /-- the classes that may be raised -/
  xs : List Str
def visB (sc : Scope) (x : Str) : Bool := match sc.names.lookup x with
  | some .local => true
  | some .cell => true
  | some .free => true
  | _ => false
def locB (Γ : Ck) (x : Str) : Bool := match Γ.sc.names.lookup x with
  | some .local => true
  | some .cell => Γ.fnb x
  | _ => false
def lclB (Γ : Ck) (x : Str) : Bool := match Γ.sc.names.lookup x with
  | some .local => true
  | _ => false
def glB (sc : Scope) (x : Str) : Bool := match sc.names.lookup x with
  | some .globalImplicit => true
  | _ => false
def nmB (x : Str) : Bool := !(x == ("__debug__" : Str)) && !(x == ("__classdict__" : Str))
def nst : Expr → Bool
  | .Starred _ _ => false
  | _ => true
def plainIxB : Expr → Bool
  | .Slice _ _ _ _ => false
  | _ => true
def notSetB : Expr → Bool
  | .Set _ _ _ => false
  | _ => true
def litB : D → Const → Bool
  | .non, .none => true
  | .bl a, .bool b => a == b
  | .int i, .int j => decide (i = j)
  | .str a, .str b => decide (a = b)
  | _, _ => false
def binP : Operator → Option P
  | .Add => some .add
  | .Sub => some .sub
  | .Mult => some .mul
  | .FloorDiv => some .fdiv
  | .Mod => some .mod
  | .Pow => some .pow
  | _ => none
def cmpP : CmpOp → Option P
  | .Eq => some .eq
  | .NotEq => some .ne
  | .Lt => some .lt
  | .LtE => some .le
  | .Gt => some .gt
  | .GtE => some .ge
  | .Is => some .is_
  | .IsNot => some .isnt
  | .In => some .in_
  | .NotIn => some .nin
/-- a built-in function's name, whether it is a type, how many arguments -/
def P.blt : P → Option (String × Bool × Nat)
  | .len => some ("len", false, 1)
  | .all => some ("all", false, 1)
  | .any => some ("any", false, 1)
  | .tuple => some ("tuple", true, 1)
  | .list => some ("list", true, 1)
  | .sum => some ("sum", false, 1)
  | .max2 => some ("max", false, 2)
  | .min2 => some ("min", false, 2)
  | .max1 => some ("max", false, 1)
  | .min1 => some ("min", false, 1)
  | .int => some ("int", true, 1)
  | .repr => some ("repr", false, 1)
  | .sorted => some ("sorted", false, 1)
  | _ => none
def bltNames : List Str := ["len", "all", "any", "tuple", "list", "sum", "max", "min", "int", "repr", "range", "enumerate", "zip", "isinstance", "bool", "str", "dict", "sorted", "set", "abs"]
def tgB (Γ : Ck) : List Nat → List Expr → Bool
  | [], [] => true
  | i :: is, .Name x _ :: es => decide (Γ.N[i]? = some x) && locB Γ x && tgB Γ is es
  | _, _ => false
def tgC (Γ : Ck) (tg : List Nat) (one : Bool) (e : Expr) : Bool := match one, e with
  | true, .Name _ _ => tgB Γ tg [e]
  | false, .Tuple es _ _ => tgB Γ tg es
  | _, _ => false
def isTup : Expr → Bool
  | .Tuple _ _ _ => true
  | _ => false
/-- the receiver of a method, no call -/
def recvB : Expr → Bool
  | .Name _ _ => true
  | .Subscript _ _ _ => true
  | _ => false
def MOp.ar : MOp → Nat
  | .append => 1
  | .pop => 0
  | .popAt => 1
  | .insert => 2
  | .extend => 1
  | .remove => 1
def blkΓ (Γ : Ck) (scope : Scope) : Ck := ⟨Γ.N, relS scope Γ.sc, fun x => scope.names.lookup x == some .cell, []⟩
/-- the names of defs in a list -/
def selB (sc : Scope) : List (Str × FnD) → List Expr → Bool
  | [], [] => true
  | p :: fs, .Name y _ :: ns => decide (p.1 = y) && glB sc y && nmB y && selB sc fs ns
  | _, _ => false
mutual
def chkE (Γ : Ck) : C → Expr → Bool
  | .var i, e => (match e with
    | .Name x _ => decide (Γ.N[i]? = some x) && visB Γ.sc x && nmB x
    | _ => false)
  | .lit d, e => (match e with
    | .Constant k _ _ => litB d k
    | _ => false)
  | .glb x d, e => (match e with
    | .Name y _ => decide (x = y) && glB Γ.sc y && nmB y
    | _ => false)
  | .tup es, e => (match e with
    | .Tuple xs _ _ => decide (es.len ≤ 1000) && chkEs Γ es xs
    | _ => false)
  | .lst es, e => (match e with
    | .List xs _ => decide (es.len ≤ 1000) && chkEs Γ es xs
    | _ => false)
  | .lstR es, e => (match e with
    | .List xs _ => decide (es.len ≤ 1000) && chkEs Γ es xs
    | _ => false)
  | .share i, e => (match e with
    | .Name x _ => decide (Γ.N[i]? = some x) && visB Γ.sc x && nmB x
    | _ => false)
  | .reprC c, e => (match e with
    | .Call (.Name f _) [x] [] _ => decide (f = "repr") && glB Γ.sc f && nst x && chkE Γ c x
    | _ => false)
  | .emp, e => (match e with
    | .Dict [] [] _ => true
    | _ => false)
  | .dct1 a b, e => (match a, b, e with
    | .lit dk, .lit dv, .Dict [some (.Constant k _ _)] [.Constant v _ _] _ => (keyOf dk).isSome && (flatV dv).isSome && litB dk k && litB dv v
    | _, _, _ => false)
  | .nt a, e => (match e with
    | .UnaryOp .Not x _ => chkE Γ a x
    | _ => false)
  | .and a b, e => (match e with
    | .BoolOp .And (x :: [y]) _ => chkE Γ a x && chkE Γ b y
    | .BoolOp .And (x :: y :: z :: rest) pos => chkE Γ a x && chkE Γ b (.BoolOp .And (y :: z :: rest) pos)
    | _ => false)
  | .or a b, e => (match e with
    | .BoolOp .Or (x :: [y]) _ => chkE Γ a x && chkE Γ b y
    | .BoolOp .Or (x :: y :: z :: rest) pos => chkE Γ a x && chkE Γ b (.BoolOp .Or (y :: z :: rest) pos)
    | _ => false)
  | .ite t a b, e => (match e with
    | .IfExp c x y _ => chkE Γ t c && chkE Γ a x && chkE Γ b y
    | _ => false)
  | .prim p es, e => (match e with
    | .BinOp x op y _ => decide (binP op = some p) && chkEs Γ es [x, y]
    | .UnaryOp .USub x _ => decide (p = .neg) && chkEs Γ es [x]
    | .Compare x [op] [y] _ => decide (cmpP op = some p) && !behindInMarks op y && chkEs Γ es [x, y]
    | .Subscript x (.Slice none none (some (.UnaryOp .USub (.Constant (.int 1) _ _) _)) _) _ => decide (p = .rev) && chkEs Γ es [x]
    | .Subscript x y _ => decide (p = .ix) && plainIxB y && chkEs Γ es [x, y]
    | .Call (.Name f _) args [] _ => (match p with
      | .isi t => (match args with
        | [x, .Name z _] => decide (f = "isinstance") && decide (z = Str.ofString t.name) && glB Γ.sc f && glB Γ.sc z && nst x && chkEs Γ es [x]
        | _ => false)
      | .lenset => (match args with
        | [.Call (.Name g _) [x] [] _] => decide (f = "len") && decide (g = "set") && glB Γ.sc f && glB Γ.sc g && nst x && chkEs Γ es [x]
        | _ => false)
      | .listrange => (match args with
        | [.Call (.Name g _) [x] [] _] => decide (f = "list") && decide (g = "range") && glB Γ.sc f && glB Γ.sc g && nst x && chkEs Γ es [x]
        | [.Call (.Name g _) [x, y] [] _] => decide (f = "list") && decide (g = "range") && glB Γ.sc f && glB Γ.sc g && nst x && nst y && chkEs Γ es [x, y]
        | _ => false)
      | _ => (match p.blt with
        | some (n, _, k) => decide (f = Str.ofString n) && decide (args.length = k) && glB Γ.sc f && args.all nst && chkEs Γ es args
        | none => false))
    | .Call (.Name f _) [x] [⟨some kn, v, _⟩] _ => decide (kn = Str.ofString "default") && (decide (p = .maxd) && decide (f = "max") || decide (p = .mind) && decide (f = "min")) && glB Γ.sc f && nst x && chkEs Γ es [x, v]
    | _ => false)
  | .slc a lo hi, e => (match e with
    | .Subscript x (.Slice l h none _) _ => chkE Γ a x && (match l with
      | none => (match lo with | .nil => true | _ => false)
      | some l => chkEs Γ lo [l]) && (match h with
      | none => (match hi with | .nil => true | _ => false)
      | some h => chkEs Γ hi [h])
    | _ => false)
  | .fn x F es, e => (match e with
    | .Call (.Name y _) args [] _ => decide (x = y) && glB Γ.sc y && nmB y && args.all nst && chkEs Γ es args
    | _ => false)
  | .fnB x F es, e => (match e with
    | .Call (.Name y _) (a :: args) [] _ => decide (x = y) && glB Γ.sc y && nmB y && (a :: args).all nst && chkEs Γ es (a :: args)
    | _ => false)
  | .sel fs w es, e => (match e with
    | .Call (.Subscript (.List ns _) x _) (a :: args) [] _ => decide (ns.length ≤ 1000) && selB Γ.sc fs ns && plainIxB x && chkE Γ w x && (a :: args).all nst && chkEs Γ es (a :: args)
    | _ => false)
  | .chain p q a b c, e => (match e with
    | .Compare x [o1, o2] [y, z] _ => decide (cmpP o1 = some p) && decide (cmpP o2 = some q) && !lastMarks [o1, o2] [y, z] && chkE Γ a x && chkE Γ b y && chkE Γ c z
    | _ => false)
  | .comp own tg one it cond elt, e => (match e with
    | .ListComp elt' [⟨tg', iter, ifs, 0⟩] scope _ => blkC Γ.N Γ.sc scope own && tgC (blkΓ Γ scope) tg one tg' && tg.all (fun i => decide (i ∈ own.map (·.2))) && notSetB iter && chkI Γ it tg' iter &&
      decide (cond.len ≤ 1) && chkEs (blkΓ Γ scope) cond ifs && chkE (blkΓ Γ scope) elt elt'
    | _ => false)
  | .mut m r es, e => (match e with
    | .Call (.Attribute o x apos) args [] cpos => decide (m ≠ .remove) && decide (x = m.nm) && recvB o && (apos.endLine == cpos.line) && decide (args.length = m.ar) && args.all nst && chkE Γ r o && chkEs Γ es args
    | _ => false)
def chkEs (Γ : Ck) : Cs → List Expr → Bool
  | .nil, xs => (match xs with
    | [] => true
    | _ => false)
  | .cons c cs, xs => (match xs with
    | x :: xs => chkE Γ c x && chkEs Γ cs xs
    | _ => false)
def chkI (Γ : Ck) : It → Expr → Expr → Bool
  | .of c, _, e => chkE Γ c e
  | .rng1 c, _, e => (match e with
    | .Call (.Name f _) [x] [] _ => decide (f = "range") && glB Γ.sc f && nst x && chkE Γ c x
    | _ => false)
  | .rng2 a b, _, e => (match e with
    | .Call (.Name f _) [x, y] [] _ => decide (f = "range") && glB Γ.sc f && nst x && nst y && chkE Γ a x && chkE Γ b y
    | _ => false)
  | .enum c, tg, e => (match e with
    | .Call (.Name f _) [x] [] _ => isTup tg && decide (f = "enumerate") && glB Γ.sc f && nst x && chkE Γ c x
    | _ => false)
  | .zip a b, tg, e => (match e with
    | .Call (.Name f _) [x, y] [] _ => isTup tg && decide (f = "zip") && glB Γ.sc f && nst x && nst y && chkE Γ a x && chkE Γ b y
    | _ => false)
  | .ofO i, _, e => (match e with
    | .Name x _ => decide (Γ.N[i]? = some x) && visB Γ.sc x && nmB x
    | _ => false)
  | .enumO i, tg, e => (match e with
    | .Call (.Name f _) [.Name x _] [] _ => isTup tg && decide (f = "enumerate") && glB Γ.sc f && (decide (Γ.N[i]? = some x) && visB Γ.sc x && nmB x)
    | _ => false)
end
end Dd

/-! Dd16: .. and then the text does what the term does. -/
namespace Dd
open L2 PyProof.Rows PySem.Spec PySem

def CalFs (R : Str → FnD → Prop) : List (Str × FnD) → Prop
  | [] => True
  | p :: fs => R p.1 p.2 ∧ CalFs R fs
mutual
/-- the defs and the globals that a term names -/
def CalE (R : Str → FnD → Prop) (R2 : Str → D → Prop) : C → Prop
  | .var _ => True
  | .lit _ => True
  | .glb x d => R2 x d
  | .tup es => CalEs R R2 es
  | .lst es => CalEs R R2 es
  | .lstR es => CalEs R R2 es
  | .emp => True
  | .share _ => True
  | .reprC c => CalE R R2 c
  | .dct1 k v => CalE R R2 k ∧ CalE R R2 v
  | .nt a => CalE R R2 a
  | .and a b => CalE R R2 a ∧ CalE R R2 b
  | .or a b => CalE R R2 a ∧ CalE R R2 b
  | .ite t a b => CalE R R2 t ∧ CalE R R2 a ∧ CalE R R2 b
  | .prim _ es => CalEs R R2 es
  | .slc a lo hi => CalE R R2 a ∧ CalEs R R2 lo ∧ CalEs R R2 hi
  | .fn x F es => R x F ∧ CalEs R R2 es
  | .fnB x F es => R x F ∧ CalEs R R2 es
  | .sel fs w es => CalFs R fs ∧ CalE R R2 w ∧ CalEs R R2 es
  | .chain _ _ a b c => CalE R R2 a ∧ CalE R R2 b ∧ CalE R R2 c
  | .comp _ _ _ it cond elt => CalI R R2 it ∧ CalEs R R2 cond ∧ CalE R R2 elt
  | .mut _ r es => CalE R R2 r ∧ CalEs R R2 es
def CalEs (R : Str → FnD → Prop) (R2 : Str → D → Prop) : Cs → Prop
  | .nil => True
  | .cons c cs => CalE R R2 c ∧ CalEs R R2 cs
def CalI (R : Str → FnD → Prop) (R2 : Str → D → Prop) : It → Prop
  | .of c => CalE R R2 c
  | .rng1 c => CalE R R2 c
  | .rng2 a b => CalE R R2 a ∧ CalE R R2 b
  | .enum c => CalE R R2 c
  | .zip a b => CalE R R2 a ∧ CalE R R2 b
  | .ofO _ => True
  | .enumO _ => True
end
/-- a class of the program that may be raised -/
def RaiseK (K : PySem.W.Frag) (mg : Str → Option Value) (xc : Str → Value) (c : Str) : Prop := ∃ C : Addr, xc c = .ref C ∧ mg c = some (.ref C) ∧ PySem.W.excIn K C He.veBase "ValueError.__new__" = true ∧ PySem.W.keepIn K (.ref C) = true ∧
  PySem.W.subIn K (.ref C) (.type "BaseException") = some true ∧ PySem.W.typeIn K (.ref C) = some (.type "type")
/-- a context in which terms are looked at -/
structure XOk (X : Cx) (en : Ent) (W : WX) (Γ : Ck) (R : Str → FnD → Prop) (R2 : Str → D → Prop) : Prop where
  scope : X.env.scope = Γ.sc
  N : X.N = Γ.N
  nd : X.N.Nodup
  nn : X.N.length = en.n
  calm : X.calm = true
  gd : X.A.guards = some []
  un : X.A.units + 200 < cLine
  sys : ∃ o, X.base.get? sysModules = some o
  fn : ∀ x, Γ.fnb x = true → X.fn x = true
  tk : Takes X W
  blt : ∀ x ∈ bltNames, X.mg x = none
  cal : ∀ x F, R x F → Callee X en.xc x F
  glb : ∀ x d, R2 x d → GlbOk X x d
  xcl : ∀ c ∈ Γ.xs, RaiseK X.K X.mg en.xc c
section
variable {X : Cx} {en : Ent} {W : WX} {Γ : Ck} {R : Str → FnD → Prop} {R2 : Str → D → Prop}
theorem XOk.vis (k : XOk X en W Γ R R2) {x : Str} (h : visB Γ.sc x = true) : Vis X.env.scope x := by
  rw [k.scope]
  unfold visB at h
  unfold Vis
  split at h
  · exact .inl (by assumption)
  · exact .inr (.inl (by assumption))
  · exact .inr (.inr (by assumption))
  · cases h
theorem XOk.loc (k : XOk X en W Γ R R2) {x : Str} (h : locB Γ x = true) : Loc X.env.scope x ∧ (X.fn x = true ∨ X.env.scope.names.lookup x = some .local) := by
  rw [k.scope]
  unfold locB at h
  unfold L2.Loc
  split at h
  · rename_i q
    exact ⟨.inl q, .inr q⟩
  · rename_i q
    exact ⟨.inr q, .inl (k.fn x h)⟩
  · cases h
theorem XOk.gl (k : XOk X en W Γ R R2) {x : Str} (h : glB Γ.sc x = true) : Gl X x := by
  show X.env.scope.names.lookup x = some .globalImplicit
  rw [k.scope]
  unfold glB at h
  split at h
  · assumption
  · cases h
theorem nmB_of {x : Str} (h : nmB x = true) : (x == ("__debug__" : Str)) = false ∧ (x == ("__classdict__" : Str)) = false := by
  unfold nmB at h
  simpa [Bool.and_eq_true, Bool.not_eq_true'] using h
theorem star_of {env : Env} {e : Expr} {es : List Expr} (h : nst e = true) : starEach (e :: es) env = (false, eval e env) :: starEach es env := by
  cases e <;> first | rfl | cases h
theorem star_all {env : Env} : ∀ {es : List Expr}, es.all nst = true → (starEach es env).all (fun x => !x.1) = true
  | [], _ => rfl
  | e :: es, h => by
    rw [List.all_cons, Bool.and_eq_true] at h
    rw [star_of h.1, List.all_cons, star_all h.2]
    rfl
theorem back_any {env : Env} {pos : Pos} {es : List Expr} (h : es.all nst = true) : (backTo pos (starEach es env)).any (·.1) = false := by
  have q := star_all (env := env) h
  unfold backTo
  rw [List.any_map]
  rw [← Bool.not_eq_true, List.any_eq_true]
  rintro ⟨x, hx, e⟩
  have := List.all_eq_true.mp q x hx
  have e : x.1 = true := e
  rw [e] at this
  cases this
theorem back_all {env : Env} {pos : Pos} {es : List Expr} (h : es.all nst = true) : (backTo pos (starEach es env)).all (fun x => !x.1) = true := by
  have q := star_all (env := env) h
  unfold backTo
  rw [List.all_map]
  exact q
/-- what is had of a term and its text -/
structure Ok4 (X : Cx) (en : Ent) (W : WX) (c : C) (e : Expr) : Prop where
  v : PE X e (tSim X.K en W c)
  o : PE X e (tSimO X.K en W c)
  t : PT X e (tSimT X.K en W c)
  w : ∀ op vs pos, e = .BoolOp op vs pos → PW X e (tSimT X.K en W c)
  n : nst e = true
theorem Ok4.mk' {c : C} {e : Expr} (v : PE X e (tSim X.K en W c)) (hc : ∀ i, c ≠ .var i) (he : ∀ whole, isTrue e X.env whole = (do let v ← whole; standAt e.pos; holding [v] (truthy v))) (hb : ∀ op vs pos, e ≠ .BoolOp op vs pos) (hn : nst e = true) : Ok4 X en W c e :=
  ⟨v, simo_of v hc, simt_plain v he, fun op vs pos z => absurd z (hb op vs pos), hn⟩
theorem simt_ite {c x y : Expr} {t a b : C} {pos : Pos} (hc : PT X c (tSimT X.K en W t)) (ha : PT X x (tSimT X.K en W a)) (hb : PT X y (tSimT X.K en W b)) : PT X (.IfExp c x y pos) (tSimT X.K en W (.ite t a b)) := ⟨fun pins s σ H Q I q => by
  rw [show isTrue (.IfExp c x y pos) X.env (eval (.IfExp c x y pos) X.env) = (do if ← isTrue c X.env (eval c X.env) then isTrue x X.env (eval x X.env) else isTrue y X.env (eval y X.env)) from rfl]
  obtain ⟨g, st, r, q⟩ := q
  have q : post X.K en W σ (Own st.sl σ) g H ((ev t st).bind fun d s => match d.1 with
    | .bl true => (ev a s).bind fun e s => Out.ok (e.1, false) s
    | .bl false => (ev b s).bind fun e s => Out.ok (e.1, false) s
    | _ => Out.stuck) _ := q
  refine wpAny_bind (thn (hc.run pins s σ H (fun k H1 => if k = true then tSimT X.K en W a σ H1 Q else tSimT X.K en W b σ H1 Q) I ⟨g, st, r, post_imp (post_bind q) fun d s' g' H' e1 r' k q => ?_⟩) fun k s1 ⟨H1, I1, q1⟩ => ?_)
  · obtain ⟨c, ec, q⟩ := post_bl (s := s') q
    refine ⟨c, ec, ?_⟩
    cases c with
    | true => exact tail_T r' q
    | false => exact tail_T r' q
  · cases k with
    | true => exact ha.run pins s1 σ H1 Q I1 q1
    | false => exact hb.run pins s1 σ H1 Q I1 q1⟩
/-- a list of terms and texts -/
def AL (X : Cx) (en : Ent) (W : WX) : Cs → List Expr → Prop
  | .nil, [] => True
  | .cons c cs, x :: xs => Ok4 X en W c x ∧ AL X en W cs xs
  | _, _ => False
theorem AL.ns : ∀ {cs : Cs} {xs : List Expr}, AL X en W cs xs → xs.all nst = true
  | .nil, [], _ => rfl
  | .cons c cs, x :: xs, h => by rw [List.all_cons, h.1.n, AL.ns h.2]; rfl
  | .nil, _ :: _, h => h.elim
  | .cons _ _, [], h => h.elim
theorem AL.pa : ∀ {cs : Cs} {xs : List Expr}, AL X en W cs xs → xs.all nst = true → PA X xs (tSims X.K en W cs)
  | .nil, [], _, _ => sims_nil
  | .cons c cs, x :: xs, h, n => by
    rw [List.all_cons, Bool.and_eq_true] at n
    exact sims_cons h.1.v (AL.pa h.2 n.2) (star_of n.1)
  | .nil, _ :: _, h, _ => h.elim
  | .cons _ _, [], h, _ => h.elim
theorem AL.pao : ∀ {cs : Cs} {xs : List Expr}, AL X en W cs xs → xs.all nst = true → PA X xs (tSimOs X.K en W cs)
  | .nil, [], _, _ => simos_nil
  | .cons c cs, x :: xs, h, n => by
    rw [List.all_cons, Bool.and_eq_true] at n
    exact simos_cons h.1.o (AL.pao h.2 n.2) (star_of n.1)
  | .nil, _ :: _, h, _ => h.elim
  | .cons _ _, [], h, _ => h.elim
theorem AL.paf : ∀ {cs : Cs} {xs : List Expr}, AL X en W cs xs → xs.all nst = true → PA X xs (tSimFs X.K en W cs)
  | .nil, [], _, _ => simf_nil
  | .cons c cs, x :: xs, h, n => by
    rw [List.all_cons, Bool.and_eq_true] at n
    exact simf_cons h.1.v (AL.paf h.2 n.2) (star_of n.1)
  | .nil, _ :: _, h, _ => h.elim
  | .cons _ _, [], h, _ => h.elim
theorem AL.one {cs : Cs} {x : Expr} (h : AL X en W cs [x]) : ∃ c, cs = .cons c .nil ∧ Ok4 X en W c x := by
  match cs, h with
  | .cons c .nil, h => exact ⟨c, rfl, h.1⟩
  | .cons c (.cons _ _), h => exact h.2.elim
theorem AL.two {cs : Cs} {x y : Expr} (h : AL X en W cs [x, y]) : ∃ a b, cs = .cons a (.cons b .nil) ∧ Ok4 X en W a x ∧ Ok4 X en W b y := by
  match cs, h with
  | .cons c cs, h =>
    obtain ⟨b, rfl, q⟩ := AL.one h.2
    exact ⟨c, b, rfl, h.1, q⟩
theorem evs_len : ∀ (cs : Cs) (s : Sta) (ds : List D) (s' : Sta), evs cs s = .ok ds s' → ds.length = cs.len
  | .nil, s, ds, s', h => by
    cases h
    rfl
  | .cons c cs, s, ds, s', h => by
    have h : ((ev c s).bind fun d s => (evs cs s).bind fun ds s => Out.ok (d.1 :: ds) s) = .ok ds s' := h
    obtain ⟨d, s1, _, h⟩ := ok_bind h
    obtain ⟨es, s2, h2, h⟩ := ok_bind h
    cases h
    show es.length + 1 = cs.len + 1
    rw [evs_len cs s1 es s' h2]
theorem len_1000 {cs : Cs} (h : cs.len ≤ 1000) (s : Sta) (ds : List D) (s' : Sta) (e : evs cs s = .ok ds s') : ds.length ≤ sizeLine := by
  rw [evs_len cs s ds s' e, sizeLine_eq]
  omega
theorem op_bin {op : Operator} {p : P} (h : binP op = some p) : OpR X (binaryOp op) (rP2 X.K p) := by
  cases op <;> cases h
  · exact p_add
  · exact p_sub
  · exact p_mul
  · exact p_mod
  · exact p_pow
  · exact p_fdiv
theorem op_cmp (k : XOk X en W Γ R R2) {op : CmpOp} {p : P} (h : cmpP op = some p) : OpR X (compareOp op) (rP2 X.K p) := by
  have u := k.un
  cases op <;> cases h
  · exact p_eq (by omega)
  · exact p_ne (by omega)
  · exact p_lt
  · exact p_le
  · exact p_gt
  · exact p_ge
  · exact p_is
  · exact p_isnt
  · exact p_in (by omega)
  · exact p_nin (by omega)
end
end Dd

/-! Dd17: the check's worth. -/
namespace Dd
open L2 PyProof.Rows PySem.Spec PySem

section
variable {en : Ent} {R : Str → FnD → Prop} {R2 : Str → D → Prop}
theorem and2 {a b : Bool} (h : (a && b) = true) : a = true ∧ b = true := by simpa using h
theorem sel_names {X : Cx} {en : Ent} {W : WX} {Γ : Ck} {R : Str → FnD → Prop} {R2 : Str → D → Prop} (k : XOk X en W Γ R R2) : ∀ (fs : List (Str × FnD)) (ns : List Expr), selB Γ.sc fs ns = true → CalFs R fs → ∃ as, SelN X en.xc fs ns as
  | [], [], _, _ => ⟨[], .nil, pa_nil, rfl⟩
  | [], _ :: _, h, _ => by unfold selB at h; cases h
  | _ :: _, [], h, _ => by unfold selB at h; cases h
  | p :: fs, e :: ns, h, c => by
    unfold selB at h
    split at h
    case h_3 => cases h
    case h_1 => rename_i q _; cases q
    rename_i p' fs' y pos ns' e1 e2
    cases e1
    cases e2
    obtain ⟨h, h4⟩ := and2 h
    obtain ⟨h, h3⟩ := and2 h
    obtain ⟨h1, h2⟩ := and2 h
    have h1 := of_decide_eq_true h1
    have ce : Callee X en.xc p.1 p.2 := k.cal p.1 p.2 c.1
    obtain ⟨a, hm⟩ : ∃ a, X.mg p.1 = some (.ref a) := by
      obtain ⟨f, _, _, _, _, _, m, _, _⟩ := id ce
      exact ⟨f, m⟩
    obtain ⟨as, ih⟩ := sel_names k fs ns h4 c.2
    refine ⟨a :: as, .cons ce hm ih.sels, ?_, by simp [ih.len]⟩
    exact (pa_cons (pe_glob (v := .ref a) (k.gl h2) (h1 ▸ hm) rfl (nmB_of h3).1) ih.pa (star_of rfl)).impD fun σ H Q q => q
theorem tgB_pgs {X : Cx} {W : WX} {Γ : Ck} (k : XOk X en W Γ R R2) : ∀ {tg : List Nat} {es : List Expr}, tgB Γ tg es = true → PGs X es (gNs tg) ∧ (assignEach es X.env).findIdx? (·.1) = none ∧ (assignEach es X.env).length = tg.length ∧ ∀ i ∈ tg, i < en.n
  | [], [], _ => ⟨pgs_nil, rfl, rfl, fun _ z => nomatch z⟩
  | [], _ :: _, h => by cases h
  | _ :: _, [], h => by cases h
  | i :: is, e :: es, h => by
    unfold tgB at h
    split at h
    · rename_i heq; cases heq
    · rename_i i' is' x p es' heq1 heq2
      cases heq1
      cases heq2
      obtain ⟨h, h3⟩ := and2 h
      obtain ⟨h1, h2⟩ := and2 h
      have h1 := of_decide_eq_true h1
      obtain ⟨q1, q2, q3, q4⟩ := tgB_pgs k h3
      obtain ⟨l1, l2⟩ := k.loc h2
      rw [← k.N] at h1
      refine ⟨pgs_cons (pg_name k.nd h1 l1 l2) q1 rfl, ?_, ?_, fun j hj => ?_⟩
      · show ((false, _) :: assignEach es X.env).findIdx? (·.1) = none
        rw [List.findIdx?_cons, if_neg (by simp), q2]
        rfl
      · show (assignEach es X.env).length + 1 = is.length + 1
        rw [q3]
      · rcases List.mem_cons.mp hj with z | z
        · subst z
          rw [← k.nn]
          exact get_len h1
        · exact q4 j z
    · cases h
theorem tgC_pg {X : Cx} {W : WX} {Γ : Ck} (k : XOk X en W Γ R R2) {tg : List Nat} {one : Bool} {e : Expr} (h : tgC Γ tg one e = true) : PG X e (gT X.K tg one) ∧ ∀ i ∈ tg, i < en.n := by
  unfold tgC at h
  split at h
  · rename_i x p
    obtain ⟨q1, q2, q3, q4⟩ := tgB_pgs k h
    refine ⟨?_, q4⟩
    match tg, h with
    | [i], h =>
      have h : (decide (Γ.N[i]? = some x) && locB Γ x && tgB Γ [] []) = true := h
      obtain ⟨h, _⟩ := and2 h
      obtain ⟨h1, h2⟩ := and2 h
      have h1 := of_decide_eq_true h1
      obtain ⟨l1, l2⟩ := k.loc h2
      rw [← k.N] at h1
      exact pg_name k.nd h1 l1 l2
  · obtain ⟨q1, q2, q3, q4⟩ := tgB_pgs k h
    exact ⟨pg_tup k.calm q1 q3 q2, q4⟩
  · cases h
theorem XOk.blk {X : Cx} {W : WX} {Γ : Ck} (k : XOk X en W Γ R R2) (scope : Scope) (s : Shared) (H : Hp) (C : Addr) (cl : List (Str × Addr)) (fp : List Addr) : XOk (X.blk s H scope (compEnvC scope cl C X.env) fp) en noW (blkΓ Γ scope) R R2 where
  scope := by
    have e : (compEnvC scope cl C X.env).scope = relS scope X.env.scope := rfl
    show (compEnvC scope cl C X.env).scope = relS scope Γ.sc
    rw [e, k.scope]
  N := k.N
  nd := k.nd
  nn := k.nn
  calm := k.calm
  gd := k.gd
  un := k.un
  sys := k.sys
  fn := fun x h => h
  tk := L2.takes0
  blt := k.blt
  cal := k.cal
  glb := k.glb
  xcl := fun _ h => nomatch h
theorem litB_of {X : Cx} {W : WX} {d : D} {cst : Const} {j : Nat} {pos : Pos} (h : litB d cst = true) : PE X (.Constant cst j pos) (tSim X.K en W (.lit d)) := by
  unfold litB at h
  split at h
  · exact sim_lit pe_non (fun _ => rfl) fun _ _ => .non
  · rename_i a b
    have e : a = b := by simpa using h
    subst e
    exact sim_lit pe_bl (fun _ => rfl) fun _ _ => .bl _
  · rename_i a b
    have e := of_decide_eq_true h
    subst e
    exact sim_lit pe_int (fun _ => rfl) fun _ _ => .int _
  · rename_i a b
    have e := of_decide_eq_true h
    subst e
    exact sim_lit pe_str (fun _ => rfl) fun _ _ => .str _
  · cases h
theorem litV_of {X : Cx} {d : D} {cst : Const} {j : Nat} {pos : Pos} {w : V} (h : litB d cst = true) (hw : flatV d = some w) : PE X (.Constant cst j pos) (tC w) := by
  unfold litB at h
  split at h
  · cases hw
    exact pe_non
  · rename_i a b
    have e : a = b := by simpa using h
    subst e
    cases hw
    exact pe_bl
  · have e := of_decide_eq_true h
    subst e
    cases hw
    exact pe_int
  · have e := of_decide_eq_true h
    subst e
    cases hw
    exact pe_str
  · cases h
theorem litK_of {X : Cx} {d : D} {cst : Const} {j : Nat} {pos : Pos} {y : Key} (h : litB d cst = true) (hy : keyOf d = some y) : PE X (.Constant cst j pos) (tC (kV y)) :=
  litV_of h (by cases d <;> cases hy <;> rfl)
theorem starN {env : Env} {x : Expr} (h : nst x = true) : starEach [x] env = [(false, eval x env)] := star_of h
theorem starN2 {env : Env} {x y : Expr} (h : nst x = true) (h2 : nst y = true) : starEach [x, y] env = [(false, eval x env), (false, eval y env)] := by rw [star_of h, star_of h2]; rfl
theorem blt_mem {x : String} (h : (bltNames.contains (Str.ofString x)) = true) : Str.ofString x ∈ bltNames := by simpa using h
theorem okB {X : Cx} {W : WX} {Γ : Ck} (k : XOk X en W Γ R R2) {p : P} {n : String} {ty : Bool} {m : Nat} {np pos : Pos} {cs : Cs} {args : List Expr} (hb : p.blt = some (n, ty, m)) (hl : args.length = m) (hg : glB Γ.sc (Str.ofString n) = true) (hn : args.all nst = true) (al : AL X en W cs args) :
    PE X (.Call (.Name (Str.ofString n) np) args [] pos) (tSim X.K en W (.prim p cs)) := by
  have g := k.gl hg
  have u := k.un
  match args, hl, hn, al with
  | [], hl, hn, al =>
    exfalso
    cases p <;> cases hb <;> cases hl
  | y :: es, hl, hn, al =>
    have pa := al.pao hn
    have hn' := hn
    rw [List.all_cons, Bool.and_eq_true] at hn'
    have he := star_of (env := X.env) (es := es) hn'.1
    have hp := back_any (env := X.env) (pos := pos) hn'.2
    cases p <;> cases hb
    · exact sim_b1 p_len g (k.blt _ (blt_mem (by decide +kernel))) (by decide +kernel) (by decide) (by decide) pa he hp
    · exact sim_b1 (p_all k.calm) g (k.blt _ (blt_mem (by decide +kernel))) (by decide +kernel) (by decide) (by decide) pa he hp
    · exact sim_b1 (p_any k.calm) g (k.blt _ (blt_mem (by decide +kernel))) (by decide +kernel) (by decide) (by decide) pa he hp
    · exact sim_t1 p_tuple g (k.blt _ (blt_mem (by decide +kernel))) (by decide +kernel) (by decide) (by decide) pa he hp
    · exact sim_t1 p_list g (k.blt _ (blt_mem (by decide +kernel))) (by decide +kernel) (by decide) (by decide) pa he hp
    · exact sim_b1 p_sorted g (k.blt _ (blt_mem (by decide +kernel))) (by decide +kernel) (by decide) (by decide) pa he hp
    · exact sim_b1 (p_sum k.calm) g (k.blt _ (blt_mem (by decide +kernel))) (by decide +kernel) (by decide) (by decide) pa he hp
    · exact sim_b1 (p_max2 k.calm) g (k.blt _ (blt_mem (by decide +kernel))) (by decide +kernel) (by decide) (by decide) pa he hp
    · exact sim_b1 (p_min2 k.calm) g (k.blt _ (blt_mem (by decide +kernel))) (by decide +kernel) (by decide) (by decide) pa he hp
    · exact sim_b1 (p_max1 k.calm) g (k.blt _ (blt_mem (by decide +kernel))) (by decide +kernel) (by decide) (by decide) pa he hp
    · exact sim_b1 (p_min1 k.calm) g (k.blt _ (blt_mem (by decide +kernel))) (by decide +kernel) (by decide) (by decide) pa he hp
    · exact sim_t1 p_int g (k.blt _ (blt_mem (by decide +kernel))) (by decide +kernel) (by decide) (by decide) pa he hp
    · exact sim_b1 (p_repr k.gd (by omega) k.sys) g (k.blt _ (blt_mem (by decide +kernel))) (by decide +kernel) (by decide) (by decide) pa he hp
theorem recv_base {X : Cx} {o : Expr} {x : Str} (h : recvB o = true) : attributeBase o x X.env (eval o X.env) = eval o X.env := by
  cases o <;> first | rfl | cases h
theorem few_of {env : Env} {cpos : Pos} {e : Expr} {es : List Expr} (h : (e :: es).all nst = true) (hl : (e :: es).length ≤ 2) : ((backTo cpos (starEach (e :: es) env)).all (fun x => !x.1) && (backToKw cpos (keywordEach [] env)).all (fun x => x.1.isSome)
      && decide ((e :: es).length + ([] : List Keyword).length + (if ([] : List Keyword).isEmpty then 0 else 1) < 30)) = true := by
  rw [back_all h]
  have : (e :: es).length + ([] : List Keyword).length + (if ([] : List Keyword).isEmpty then 0 else 1) < 30 := by
    show (e :: es).length + 0 + 0 < 30
    omega
  rw [decide_eq_true this]
  rfl
mutual
theorem okE : ∀ (c : C) {X : Cx} {W : WX} {Γ : Ck} {e : Expr}, XOk X en W Γ R R2 → chkE Γ c e = true → CalE R R2 c → Ok4 X en W c e
  | .var i, X, W, Γ, e, k, h, _ => by
    unfold chkE at h
    split at h
    · obtain ⟨h, h3⟩ := and2 h
      obtain ⟨h1, h2⟩ := and2 h
      have h1 := of_decide_eq_true h1
      rw [← k.N] at h1
      have n := nmB_of h3
      have v := sim_var (en := en) (W := W) (pos := by assumption) h1 (k.vis h2) n.1 n.2
      exact ⟨v, simo_var h1 (k.vis h2) n.1 n.2, simt_plain v fun _ => rfl, (fun _ _ _ z => nomatch z), rfl⟩
    · cases h
  | .lit d, X, W, Γ, e, k, h, _ => by
    unfold chkE at h
    split at h
    · exact .mk' (litB_of (X := X) (W := W) h) (fun _ z => nomatch z) (fun _ => rfl) (fun _ _ _ z => nomatch z) rfl
    · cases h
  | .glb x d, X, W, Γ, e, k, h, cal => by
    unfold chkE at h
    split at h
    · obtain ⟨h, h3⟩ := and2 h
      obtain ⟨h1, h2⟩ := and2 h
      have h1 := of_decide_eq_true h1
      subst h1
      obtain ⟨u, v, hm, rv, rep⟩ := k.glb x d cal
      exact .mk' (sim_lit (pe_glob (k.gl h2) hm rv (nmB_of h3).1) (fun _ => rfl) rep) (fun _ z => nomatch z) (fun _ => rfl) (fun _ _ _ z => nomatch z) rfl
    · cases h
  | .tup es, X, W, Γ, e, k, h, cal => by
    unfold chkE at h
    split at h
    · obtain ⟨h1, h2⟩ := and2 h
      have al := okEs es k h2 cal
      exact .mk' (sim_tup (al.pa al.ns) (len_1000 (of_decide_eq_true h1))) (fun _ z => nomatch z) (fun _ => rfl) (fun _ _ _ z => nomatch z) rfl
    · cases h
  | .lst es, X, W, Γ, e, k, h, cal => by
    unfold chkE at h
    split at h
    · obtain ⟨h1, h2⟩ := and2 h
      have al := okEs es k h2 cal
      exact .mk' (sim_lst (al.pa al.ns) (len_1000 (of_decide_eq_true h1))) (fun _ z => nomatch z) (fun _ => rfl) (fun _ _ _ z => nomatch z) rfl
    · cases h
  | .lstR es, X, W, Γ, e, k, h, cal => by
    unfold chkE at h
    split at h
    · obtain ⟨h1, h2⟩ := and2 h
      have al := okEs es k h2 cal
      exact .mk' (sim_lstR (al.pa al.ns) (len_1000 (of_decide_eq_true h1))) (fun _ z => nomatch z) (fun _ => rfl) (fun _ _ _ z => nomatch z) rfl
    · cases h
  | .share i, X, W, Γ, e, k, h, _ => by
    unfold chkE at h
    split at h
    · obtain ⟨h, h3⟩ := and2 h
      obtain ⟨h1, h2⟩ := and2 h
      have h1 := of_decide_eq_true h1
      rw [← k.N] at h1
      have n := nmB_of h3
      exact .mk' (sim_share h1 (k.vis h2) n.1 n.2) (fun _ z => nomatch z) (fun _ => rfl) (fun _ _ _ z => nomatch z) rfl
    · cases h
  | .reprC c, X, W, Γ, e, k, h, cal => by
    unfold chkE at h
    split at h
    · obtain ⟨h, h4⟩ := and2 h
      obtain ⟨h, h3⟩ := and2 h
      obtain ⟨h1, h2⟩ := and2 h
      have h1 := of_decide_eq_true h1
      have q := okE c k h4 cal
      have u := k.un
      exact .mk' (sim_reprC k.gd (by omega) k.sys h1 (k.gl h2) (by rw [h1]; exact k.blt _ (blt_mem (by decide +kernel))) q.v fun _ => star_of h3) (fun _ z => nomatch z) (fun _ => rfl) (fun _ _ _ z => nomatch z) rfl
    · cases h
  | .emp, X, W, Γ, e, k, h, _ => by
    unfold chkE at h
    split at h
    · exact .mk' sim_emp (fun _ z => nomatch z) (fun _ => rfl) (fun _ _ _ z => nomatch z) rfl
    · cases h
  | .dct1 a b, X, W, Γ, e, k, h, _ => by
    unfold chkE at h
    split at h
    · obtain ⟨h, h4⟩ := and2 h
      obtain ⟨h, h3⟩ := and2 h
      obtain ⟨h1, h2⟩ := and2 h
      obtain ⟨y, hy⟩ := Option.isSome_iff_exists.mp h1
      obtain ⟨w, hw⟩ := Option.isSome_iff_exists.mp h2
      exact .mk' (sim_dct1 hy hw (litK_of h3 hy) (litV_of h4 hw)) (fun _ z => nomatch z) (fun _ => rfl) (fun _ _ _ z => nomatch z) rfl
    · cases h
  | .nt a, X, W, Γ, e, k, h, cal => by
    unfold chkE at h
    split at h
    · have q := okE a k h cal
      have v := sim_not (pos := by assumption) q.v
      exact ⟨v, simo_of v (fun _ z => nomatch z), simt_not q.t, (fun _ _ _ z => nomatch z), rfl⟩
    · cases h
  | .and a b, X, W, Γ, e, k, h, cal => by
    unfold chkE at h
    split at h
    · rename_i x y pos
      obtain ⟨h1, h2⟩ := and2 h
      have p := okE a k h1 cal.1
      have q := okE b k h2 cal.2
      have v := sim_and p.v (pe_one (op := .And) (pos := pos) q.v)
      have w := simw_and p.t (pw_and1 (pos := pos) q.t)
      exact ⟨v, simo_of v (fun _ z => nomatch z), w.pt, fun _ _ _ _ => w, rfl⟩
    · rename_i x y z rest pos
      obtain ⟨h1, h2⟩ := and2 h
      have p := okE a k h1 cal.1
      have q := okE b k h2 cal.2
      have v := sim_and p.v q.v
      have w := simw_and p.t (q.w _ _ _ rfl)
      exact ⟨v, simo_of v (fun _ z => nomatch z), w.pt, fun _ _ _ _ => w, rfl⟩
    · cases h
  | .or a b, X, W, Γ, e, k, h, cal => by
    unfold chkE at h
    split at h
    · rename_i x y pos
      obtain ⟨h1, h2⟩ := and2 h
      have p := okE a k h1 cal.1
      have q := okE b k h2 cal.2
      have v := sim_or p.v (pe_one (op := .Or) (pos := pos) q.v)
      have w := simw_or p.t (pw_or1 (pos := pos) q.t)
      exact ⟨v, simo_of v (fun _ z => nomatch z), w.pt, fun _ _ _ _ => w, rfl⟩
    · rename_i x y z rest pos
      obtain ⟨h1, h2⟩ := and2 h
      have p := okE a k h1 cal.1
      have q := okE b k h2 cal.2
      have v := sim_or p.v q.v
      have w := simw_or p.t (q.w _ _ _ rfl)
      exact ⟨v, simo_of v (fun _ z => nomatch z), w.pt, fun _ _ _ _ => w, rfl⟩
    · cases h
  | .ite t a b, X, W, Γ, e, k, h, cal => by
    unfold chkE at h
    split at h
    · obtain ⟨h, h3⟩ := and2 h
      obtain ⟨h1, h2⟩ := and2 h
      have p := okE t k h1 cal.1
      have q := okE a k h2 cal.2.1
      have r := okE b k h3 cal.2.2
      have v := sim_ite (pos := by assumption) p.t q.v r.v
      exact ⟨v, simo_of v (fun _ z => nomatch z), simt_ite p.t q.t r.t, (fun _ _ _ z => nomatch z), rfl⟩
    · cases h
  | .prim p es, X, W, Γ, e, k, h, cal => by
    unfold chkE at h
    split at h
    · obtain ⟨h1, h2⟩ := and2 h
      have al := okEs es k h2 cal
      obtain ⟨a, b, rfl, qa, qb⟩ := al.two
      exact .mk' (sim_bin (op_bin (of_decide_eq_true h1)) qa.o qb.o) (fun _ z => nomatch z) (fun _ => rfl) (fun _ _ _ z => nomatch z) rfl
    · obtain ⟨h1, h2⟩ := and2 h
      have h1 := of_decide_eq_true h1
      subst h1
      have al := okEs es k h2 cal
      obtain ⟨a, rfl, qa⟩ := al.one
      exact .mk' (sim_un p_neg qa.o) (fun _ z => nomatch z) (fun _ => rfl) (fun _ _ _ z => nomatch z) rfl
    · obtain ⟨h, h3⟩ := and2 h
      obtain ⟨h1, h2⟩ := and2 h
      have al := okEs es k h3 cal
      obtain ⟨a, b, rfl, qa, qb⟩ := al.two
      have hm := Bool.not_eq_true' _ |>.mp h2
      have oc := op_cmp k (of_decide_eq_true h1)
      have v := sim_cmp (pos := by assumption) oc qa.o qb.o hm
      exact ⟨v, simo_of v (fun _ z => nomatch z), simt_cmp oc qa.o qb.o hm, (fun _ _ _ z => nomatch z), rfl⟩
    · obtain ⟨h1, h2⟩ := and2 h
      have h1 := of_decide_eq_true h1
      subst h1
      have al := okEs es k h2 cal
      obtain ⟨a, rfl, qa⟩ := al.one
      exact .mk' (sim_rev qa.o) (fun _ z => nomatch z) (fun _ => rfl) (fun _ _ _ z => nomatch z) rfl
    · rename_i x y pos _
      obtain ⟨h, h3⟩ := and2 h
      obtain ⟨h1, h2⟩ := and2 h
      have h1 := of_decide_eq_true h1
      subst h1
      have al := okEs es k h3 cal
      obtain ⟨a, b, rfl, qa, qb⟩ := al.two
      refine .mk' (sim_ix qa.o qb.o ?_) (fun _ z => nomatch z) (fun _ => rfl) (fun _ _ _ z => nomatch z) rfl
      intro o i
      cases y <;> first | rfl | cases h2
    · split at h
      · rename_i t
        split at h
        · rename_i x z zp
          obtain ⟨h, h6⟩ := and2 h
          obtain ⟨h, h5⟩ := and2 h
          obtain ⟨h, h4⟩ := and2 h
          obtain ⟨h, h3⟩ := and2 h
          obtain ⟨h1, h2⟩ := and2 h
          have h1 := of_decide_eq_true h1
          have h2 := of_decide_eq_true h2
          subst h1
          have al := okEs es k h6 cal
          obtain ⟨a, rfl, qa⟩ := al.one
          refine .mk' (sim_isi rfl h2 (k.gl h3) (k.blt _ (blt_mem (by decide +kernel))) (k.gl h4) ?_ qa.o fun _ => star_of h5) (fun _ z => nomatch z) (fun _ => rfl) (fun _ _ _ z => nomatch z) rfl
          rw [h2]
          cases t <;> exact k.blt _ (blt_mem (by decide +kernel))
        · cases h
      · split at h
        · obtain ⟨h, h6⟩ := and2 h
          obtain ⟨h, h5⟩ := and2 h
          obtain ⟨h, h4⟩ := and2 h
          obtain ⟨h, h3⟩ := and2 h
          obtain ⟨h1, h2⟩ := and2 h
          have h1 := of_decide_eq_true h1
          have h2 := of_decide_eq_true h2
          subst h1
          subst h2
          have al := okEs es k h6 cal
          obtain ⟨a, rfl, qa⟩ := al.one
          exact .mk' (sim_lenset k.calm (k.gl h3) (k.blt _ (blt_mem (by decide +kernel))) (k.gl h4) (k.blt _ (blt_mem (by decide +kernel))) qa.o (star_of h5)) (fun _ z => nomatch z) (fun _ => rfl) (fun _ _ _ z => nomatch z) rfl
        · cases h
      · split at h
        · obtain ⟨h, h6⟩ := and2 h
          obtain ⟨h, h5⟩ := and2 h
          obtain ⟨h, h4⟩ := and2 h
          obtain ⟨h, h3⟩ := and2 h
          obtain ⟨h1, h2⟩ := and2 h
          have h1 := of_decide_eq_true h1
          have h2 := of_decide_eq_true h2
          subst h1
          subst h2
          have al := okEs es k h6 cal
          obtain ⟨a, rfl, qa⟩ := al.one
          exact .mk' (sim_listrange k.calm (k.gl h3) (k.blt _ (blt_mem (by decide +kernel))) (k.gl h4) (k.blt _ (blt_mem (by decide +kernel))) qa.o (star_of h5)) (fun _ z => nomatch z) (fun _ => rfl) (fun _ _ _ z => nomatch z) rfl
        · obtain ⟨h, h7⟩ := and2 h
          obtain ⟨h, h6⟩ := and2 h
          obtain ⟨h, h5⟩ := and2 h
          obtain ⟨h, h4⟩ := and2 h
          obtain ⟨h, h3⟩ := and2 h
          obtain ⟨h1, h2⟩ := and2 h
          have h1 := of_decide_eq_true h1
          have h2 := of_decide_eq_true h2
          subst h1
          subst h2
          have al := okEs es k h7 cal
          obtain ⟨a, b, rfl, qa, qb⟩ := al.two
          exact .mk' (sim_listrange2 k.calm (k.gl h3) (k.blt _ (blt_mem (by decide +kernel))) (k.gl h4) (k.blt _ (blt_mem (by decide +kernel))) qa.o qb.o (star_of h5) (star_of h6)) (fun _ z => nomatch z) (fun _ => rfl) (fun _ _ _ z => nomatch z) rfl
        · cases h
      · split at h
        · rename_i n ty m hb
          obtain ⟨h, h5⟩ := and2 h
          obtain ⟨h, h4⟩ := and2 h
          obtain ⟨h, h3⟩ := and2 h
          obtain ⟨h1, h2⟩ := and2 h
          have h1 := of_decide_eq_true h1
          have h2 := of_decide_eq_true h2
          subst h1
          have al := okEs es k h5 cal
          exact .mk' (okB k hb h2 h3 h4 al) (fun _ z => nomatch z) (fun _ => rfl) (fun _ _ _ z => nomatch z) rfl
        · cases h
    · obtain ⟨h, h5⟩ := and2 h
      obtain ⟨h, h4⟩ := and2 h
      obtain ⟨h, h3⟩ := and2 h
      obtain ⟨h1, h2⟩ := and2 h
      have h1 := of_decide_eq_true h1
      subst h1
      have al := okEs es k h5 cal
      obtain ⟨a, b, rfl, qa, qb⟩ := al.two
      have u := k.un
      rcases Bool.or_eq_true _ _ ▸ h2 with h2 | h2
      · obtain ⟨e1, e2⟩ := and2 h2
        have e1 := of_decide_eq_true e1
        have e2 := of_decide_eq_true e2
        subst e1 e2
        exact .mk' (sim_bestd (mx := true) (f := "max") rfl (cr_maxd k.calm (by omega)) (k.gl h3) (k.blt _ (blt_mem (by decide +kernel))) (by decide +kernel) (by decide) (by decide) qa.o qb.o (fun _ => star_of h4)) (fun _ z => nomatch z) (fun _ => rfl) (fun _ _ _ z => nomatch z) rfl
      · obtain ⟨e1, e2⟩ := and2 h2
        have e1 := of_decide_eq_true e1
        have e2 := of_decide_eq_true e2
        subst e1 e2
        exact .mk' (sim_bestd (mx := false) (f := "min") rfl (cr_mind k.calm (by omega)) (k.gl h3) (k.blt _ (blt_mem (by decide +kernel))) (by decide +kernel) (by decide) (by decide) qa.o qb.o (fun _ => star_of h4)) (fun _ z => nomatch z) (fun _ => rfl) (fun _ _ _ z => nomatch z) rfl
    · cases h
  | .slc a lo hi, X, W, Γ, e, k, h, cal => by
    unfold chkE at h
    split at h
    · rename_i x l u p2 pos
      obtain ⟨h, h3⟩ := and2 h
      obtain ⟨h1, h2⟩ := and2 h
      have q := okE a k h1 cal.1
      have ql : PO X l (tSimP X.K en W lo) := by
        split at h2
        · split at h2
          · exact simp_nil
          · cases h2
        · obtain ⟨b, rfl, qb⟩ := (okEs lo k h2 cal.2.1).one
          exact simp_one qb.v
      have qu : PO X u (tSimP X.K en W hi) := by
        split at h3
        · split at h3
          · exact simp_nil
          · cases h3
        · obtain ⟨b, rfl, qb⟩ := (okEs hi k h3 cal.2.2).one
          exact simp_one qb.v
      exact .mk' (sim_slc q.o ql qu) (fun _ z => nomatch z) (fun _ => rfl) (fun _ _ _ z => nomatch z) rfl
    · cases h
  | .fn x F es, X, W, Γ, e, k, h, cal => by
    unfold chkE at h
    split at h
    · rename_i y np args pos
      obtain ⟨h, h5⟩ := and2 h
      obtain ⟨h, h4⟩ := and2 h
      obtain ⟨h, h3⟩ := and2 h
      obtain ⟨h1, h2⟩ := and2 h
      have h1 := of_decide_eq_true h1
      subst h1
      have al := okEs es k h5 cal.2
      have ce := k.cal x F cal.1
      have v : PE X (.Call (.Name x np) args [] pos) (tSim X.K en W (.fn x F es)) := by
        match args, es, al, h4 with
        | [], .nil, al, h4 => exact sim_fn0 ce k.gd k.tk (k.gl h2) (nmB_of h3).1
        | y :: ys, es, al, h4 =>
          have h4' := h4
          rw [List.all_cons, Bool.and_eq_true] at h4'
          exact sim_fn ce k.gd k.tk (k.gl h2) (nmB_of h3).1 (al.pa h4) (star_of h4'.1) (back_any h4'.2)
        | [], .cons _ _, al, _ => exact al.elim
      exact .mk' v (fun _ z => nomatch z) (fun _ => rfl) (fun _ _ _ z => nomatch z) rfl
    · cases h
  | .fnB x F es, X, W, Γ, e, k, h, cal => by
    unfold chkE at h
    split at h
    · rename_i y np a args pos
      obtain ⟨h, h5⟩ := and2 h
      obtain ⟨h, h4⟩ := and2 h
      obtain ⟨h, h3⟩ := and2 h
      obtain ⟨h1, h2⟩ := and2 h
      have h1 := of_decide_eq_true h1
      subst h1
      have al := okEs es k h5 cal.2
      have ce := k.cal x F cal.1
      have h4' := h4
      rw [List.all_cons, Bool.and_eq_true] at h4'
      have v : PE X (.Call (.Name x np) (a :: args) [] pos) (tSim X.K en W (.fnB x F es)) :=
        sim_fnB ce k.gd k.tk (k.gl h2) (nmB_of h3).1 (al.pao h4) (star_of h4'.1) (back_any h4'.2)
      exact .mk' v (fun _ z => nomatch z) (fun _ => rfl) (fun _ _ _ z => nomatch z) rfl
    · cases h
  | .sel fs w es, X, W, Γ, e, k, h, cal => by
    unfold chkE at h
    split at h
    · rename_i ns lp x p2 a args pos
      obtain ⟨h, h6⟩ := and2 h
      obtain ⟨h, h5⟩ := and2 h
      obtain ⟨h, h4⟩ := and2 h
      obtain ⟨h, h3⟩ := and2 h
      obtain ⟨h1, h2⟩ := and2 h
      have al := okEs es k h6 cal.2.2
      have qw := okE w k h4 cal.2.1
      have h5' := h5
      rw [List.all_cons, Bool.and_eq_true] at h5'
      have ix : PlainIx x := by
        intro o i
        cases x <;> first | rfl | cases h3
      have v : PE X (.Call (.Subscript (.List ns lp) x p2) (a :: args) [] pos) (tSim X.K en W (.sel fs w es)) :=
        sim_sel (sel_names k fs ns h2 cal.1) (of_decide_eq_true h1) k.gd k.tk qw.v ix (al.pa h5) (star_of h5'.1) (back_any h5'.2)
      exact .mk' v (fun _ z => nomatch z) (fun _ => rfl) (fun _ _ _ z => nomatch z) rfl
    · cases h
  | .chain p q a b c, X, W, Γ, e, k, h, cal => by
    unfold chkE at h
    split at h
    · obtain ⟨h, h6⟩ := and2 h
      obtain ⟨h, h5⟩ := and2 h
      obtain ⟨h, h4⟩ := and2 h
      obtain ⟨h, h3⟩ := and2 h
      obtain ⟨h1, h2⟩ := and2 h
      have qa := okE a k h4 cal.1
      have qb := okE b k h5 cal.2.1
      have qc := okE c k h6 cal.2.2
      have hm := Bool.not_eq_true' _ |>.mp h3
      have o1 := op_cmp k (of_decide_eq_true h1)
      have o2 := op_cmp k (of_decide_eq_true h2)
      have v := sim_chain (pos := by assumption) o1 o2 qa.o qb.o qc.o hm
      exact ⟨v, simo_of v (fun _ z => nomatch z), simt_chain o1 o2 qa.o qb.o qc.o hm, (fun _ _ _ z => nomatch z), rfl⟩
    · cases h
  | .comp own tg one it cond elt, X, W, Γ, e, k, h, cal => by
    unfold chkE at h
    split at h
    · rename_i elt' tg' iter ifs scope pos
      obtain ⟨h, h8⟩ := and2 h
      obtain ⟨h, h7⟩ := and2 h
      obtain ⟨h, h6⟩ := and2 h
      obtain ⟨h, h5⟩ := and2 h
      obtain ⟨h, h4⟩ := and2 h
      obtain ⟨h, h3⟩ := and2 h
      obtain ⟨h1, h2⟩ := and2 h
      have bo := blkOk_by h1
      rw [← k.N, ← k.scope] at bo
      have hcond : cond = .nil ∨ ∃ c, cond = .cons c .nil := by
        match cond, h6 with
        | .nil, _ => exact .inl rfl
        | .cons c .nil, _ => exact .inr ⟨c, rfl⟩
        | .cons _ (.cons _ cs), h6 =>
          have := of_decide_eq_true h6
          have h : cs.len + 1 + 1 ≤ 1 := this
          omega
      have htg : ∀ i ∈ tg, i ∈ own.map (·.2) := fun i hi => of_decide_eq_true (List.all_eq_true.mp h3 i hi)
      have hlen : ∀ i ∈ own.map (·.2), i < en.n := fun i hi => by
        obtain ⟨p, hp, rfl⟩ := List.mem_map.mp hi
        rw [← k.nn]
        exact get_len (bo.ix p hp)
      have pi := okI it k h5 cal.1
      have hs : ∀ x, foldedSetIterable iter X.env x = pure x := fun x => by
        cases iter <;> first | rfl | cases h4
      have v : PE X (.ListComp elt' [⟨tg', iter, ifs, 0⟩] scope pos) (tSim X.K en W (.comp own tg one it cond elt)) := by
        refine (pe_lc (g := gT X.K tg one) (tt := tCond X.K en noW cond) (te := tSim X.K en noW elt) k.calm k.nd pi bo (fun s H C cl fp => (tgC_pg (k.blk scope s H C cl fp) h2).1) (fun s H C cl fp => ?_) (fun s H C cl fp => ?_) hs).impD fun σ H Q q => comp_as hcond htg hlen q
        · have kb := k.blk scope s H C cl fp
          have al := okEs cond kb h7 cal.2.1
          rcases hcond with e1 | ⟨c, e1⟩
          · subst e1
            match ifs, al with
            | [], _ => exact pts_nil
          · subst e1
            match ifs, al with
            | [x], al => exact pts_one al.1.t
        · exact (okE elt (k.blk scope s H C cl fp) h8 cal.2.2).v
      exact .mk' v (fun _ z => nomatch z) (fun _ => rfl) (fun _ _ _ z => nomatch z) rfl
    · cases h
  | .mut m r es, X, W, Γ, e, k, h, cal => by
    unfold chkE at h
    split at h
    · rename_i o x apos args cpos
      obtain ⟨h, h8⟩ := and2 h
      obtain ⟨h, h7⟩ := and2 h
      obtain ⟨h, h6⟩ := and2 h
      obtain ⟨h, h5⟩ := and2 h
      obtain ⟨h, h4⟩ := and2 h
      obtain ⟨h, h3⟩ := and2 h
      obtain ⟨h1, h2⟩ := and2 h
      have h1 := of_decide_eq_true h1
      have h2 := of_decide_eq_true h2
      have q := okE r k h7 cal.1
      have al := okEs es k h8 cal.2
      have hb := recv_base (X := X) (x := x) h3
      have h5 := of_decide_eq_true h5
      have v : PE X (.Call (.Attribute o x apos) args [] cpos) (tSim X.K en W (.mut m r es)) := by
        match args, es, al, h6, h5 with
        | [], .nil, al, h6, h5 => exact sim_mut0 h1 h2 q.o hb h4
        | y :: ys, es, al, h6, h5 =>
          have h6' := h6
          rw [List.all_cons, Bool.and_eq_true] at h6'
          exact sim_mut h1 h2 q.o (al.pa h6) hb (few_of h6 (by rw [h5]; cases m <;> decide)) h4 (star_of h6'.1) (back_any h6'.2)
        | [], .cons _ _, al, _, _ => exact al.elim
      exact .mk' v (fun _ z => nomatch z) (fun _ => rfl) (fun _ _ _ z => nomatch z) rfl
    · cases h
theorem okEs : ∀ (cs : Cs) {X : Cx} {W : WX} {Γ : Ck} {xs : List Expr}, XOk X en W Γ R R2 → chkEs Γ cs xs = true → CalEs R R2 cs → AL X en W cs xs
  | .nil, X, W, Γ, xs, k, h, _ => by
    unfold chkEs at h
    split at h
    · trivial
    · cases h
  | .cons c cs, X, W, Γ, xs, k, h, cal => by
    unfold chkEs at h
    split at h
    · obtain ⟨h1, h2⟩ := and2 h
      exact ⟨okE c k h1 cal.1, okEs cs k h2 cal.2⟩
    · cases h
theorem okI : ∀ (it : It) {X : Cx} {W : WX} {Γ : Ck} {tg e : Expr}, XOk X en W Γ R R2 → chkI Γ it tg e = true → CalI R R2 it → PI X tg e (tIt X.K en W it)
  | .of c, X, W, Γ, tg, e, k, h, cal => by
    unfold chkI at h
    exact pi_of (okE c k h cal).v
  | .rng1 c, X, W, Γ, tg, e, k, h, cal => by
    unfold chkI at h
    split at h
    · obtain ⟨h, h4⟩ := and2 h
      obtain ⟨h, h3⟩ := and2 h
      obtain ⟨h1, h2⟩ := and2 h
      have h1 := of_decide_eq_true h1
      subst h1
      exact pi_rng1 (k.gl h2) (k.blt _ (blt_mem (by decide +kernel))) (okE c k h4 cal).v (starN h3)
    · cases h
  | .rng2 a b, X, W, Γ, tg, e, k, h, cal => by
    unfold chkI at h
    split at h
    · obtain ⟨h, h6⟩ := and2 h
      obtain ⟨h, h5⟩ := and2 h
      obtain ⟨h, h4⟩ := and2 h
      obtain ⟨h, h3⟩ := and2 h
      obtain ⟨h1, h2⟩ := and2 h
      have h1 := of_decide_eq_true h1
      subst h1
      exact pi_rng2 (k.gl h2) (k.blt _ (blt_mem (by decide +kernel))) (okE a k h5 cal.1).v (okE b k h6 cal.2).v (starN2 h3 h4) (starN h4)
    · cases h
  | .enum c, X, W, Γ, tg, e, k, h, cal => by
    unfold chkI at h
    split at h
    · obtain ⟨h, h5⟩ := and2 h
      obtain ⟨h, h4⟩ := and2 h
      obtain ⟨h, h3⟩ := and2 h
      obtain ⟨h1, h2⟩ := and2 h
      have h2 := of_decide_eq_true h2
      subst h2
      have q := (okE c k h5 cal).v
      cases tg with
      | Tuple els kk tp => exact pi_en (k.gl h3) (k.blt _ (blt_mem (by decide +kernel))) q (starN h4)
      | _ => cases h1
    · cases h
  | .zip a b, X, W, Γ, tg, e, k, h, cal => by
    unfold chkI at h
    split at h
    · obtain ⟨h, h7⟩ := and2 h
      obtain ⟨h, h6⟩ := and2 h
      obtain ⟨h, h5⟩ := and2 h
      obtain ⟨h, h4⟩ := and2 h
      obtain ⟨h, h3⟩ := and2 h
      obtain ⟨h1, h2⟩ := and2 h
      have h2 := of_decide_eq_true h2
      subst h2
      have qa := (okE a k h6 cal.1).v
      have qb := (okE b k h7 cal.2).v
      cases tg with
      | Tuple els kk tp => exact pi_zp (k.gl h3) (k.blt _ (blt_mem (by decide +kernel))) qa qb (star_of h4) (starN h5)
      | _ => cases h1
    · cases h
  | .ofO i, X, W, Γ, tg, e, k, h, cal => by
    unfold chkI at h
    split at h
    · obtain ⟨h, h3⟩ := and2 h
      obtain ⟨h1, h2⟩ := and2 h
      have h1 := of_decide_eq_true h1
      rw [← k.N] at h1
      have n := nmB_of h3
      exact pi_ofO h1 (k.vis h2) n.1 n.2
    · cases h
  | .enumO i, X, W, Γ, tg, e, k, h, cal => by
    unfold chkI at h
    split at h
    · obtain ⟨h, h4⟩ := and2 h
      obtain ⟨h, h3⟩ := and2 h
      obtain ⟨h0, h2⟩ := and2 h
      have h2 := of_decide_eq_true h2
      subst h2
      obtain ⟨h4, h6⟩ := and2 h4
      obtain ⟨h1, h5⟩ := and2 h4
      have h1 := of_decide_eq_true h1
      rw [← k.N] at h1
      have n := nmB_of h6
      cases tg with
      | Tuple els kk tp => exact pi_enumO (k.gl h3) (k.blt _ (blt_mem (by decide +kernel))) h1 (k.vis h5) n.1 n.2
      | _ => cases h0
    · cases h
end
end
end Dd

/-! Dd18: the check for statements, and its worth. -/
namespace Dd
open L2 PyProof.Rows PySem.Spec PySem

def notCompB : Expr → Bool
  | .ListComp _ _ _ _ => false
  | .SetComp _ _ _ _ => false
  | .DictComp _ _ _ _ _ => false
  | _ => true
def swNames (sc : Scope) (ts : List Expr) : List Str := ts.filterMap fun
  | .Name id pos => if (sc.names.lookup id == some .local && pos.line == (ts.head?.map (·.pos.line)).getD 0) = true then some id else none
  | _ => none
def swR (sc : Scope) (ts vs : List Expr) : Option (Option (List Str)) :=
  if (!(ts.length == 2 || ts.length == 3) || vs.length != ts.length) = true then some none
  else if (vs.any fun | .Starred _ _ => true | _ => false) = true then some none
  else if ((swNames sc ts).length != ts.length || (swNames sc ts).eraseDups.length != (swNames sc ts).length) = true then some none
  else if (vs.all (foldedForSure 8)) = true then some none
  else if (vs.all (constantsAlone 8)) = true then none
  else some (some (swNames sc ts))
theorem swR_of {env : Env} {ts vs : List Expr} {k k2 : Nat} {p p2 : Pos} {r : Option (List Str)} (hk : env.scope.kind = .function) (h : swR env.scope ts vs = some r) : swappedStores [.Tuple ts k p] (.Tuple vs k2 p2) env = pure r := by
  have hb : env.blockKind = .function := by unfold Env.blockKind; rw [hk]; rfl
  unfold swR at h
  unfold swappedStores
  simp only [hb]
  by_cases h1 : (!(ts.length == 2 || ts.length == 3) || vs.length != ts.length) = true
  · rw [if_pos h1] at h
    cases h
    exact if_pos (show (!(ts.length == 2 || ts.length == 3) || vs.length != ts.length || ScopeKind.function != ScopeKind.function) = true by rw [h1]; rfl)
  · rw [if_neg h1] at h
    refine (if_neg (show ¬ (!(ts.length == 2 || ts.length == 3) || vs.length != ts.length || ScopeKind.function != ScopeKind.function) = true from fun q => h1 ?_)).trans ?_
    · rw [Bool.or_eq_true] at q
      rcases q with q | q
      · exact q
      · cases q
    by_cases h2 : (vs.any fun | .Starred _ _ => true | _ => false) = true
    · rw [if_pos h2] at h
      cases h
      exact if_pos h2
    · rw [if_neg h2] at h
      refine (if_neg h2).trans ?_
      by_cases h3 : ((swNames env.scope ts).length != ts.length || (swNames env.scope ts).eraseDups.length != (swNames env.scope ts).length) = true
      · rw [if_pos h3] at h
        cases h
        exact if_pos h3
      · rw [if_neg h3] at h
        refine (if_neg h3).trans ?_
        by_cases h4 : (vs.all (foldedForSure 8)) = true
        · rw [if_pos h4] at h
          cases h
          exact if_pos h4
        · rw [if_neg h4] at h
          refine (if_neg h4).trans ?_
          by_cases h5 : (vs.all (constantsAlone 8)) = true
          · rw [if_pos h5] at h
            cases h
          · rw [if_neg h5] at h
            cases h
            exact if_neg h5
def isComp : C → Bool
  | .comp _ _ _ _ _ _ => true
  | _ => false
/-- plain local names that are stored from the right -/
def swOk (Γ : Ck) (is : List Nat) (ts : List Expr) (ns : List Str) : Bool := match is, ts with
  | [i, j], [.Name x _, .Name y _] => lclB Γ x && lclB Γ y && decide (ns = [x, y]) && decide (Γ.N[i]? = some x) && decide (Γ.N[j]? = some y)
  | [i, j, l], [.Name x _, .Name y _, .Name z _] => lclB Γ x && lclB Γ y && lclB Γ z && decide (ns = [x, y, z]) && decide (Γ.N[i]? = some x) && decide (Γ.N[j]? = some y) && decide (Γ.N[l]? = some z)
  | _, _ => false
theorem swOk_of {Γ : Ck} {is : List Nat} {ts : List Expr} {ns : List Str} (h : swOk Γ is ts ns = true) :
    (∃ i j x px y py, is = [i, j] ∧ ts = [.Name x px, .Name y py] ∧ lclB Γ x = true ∧ lclB Γ y = true ∧ ns = [x, y] ∧ Γ.N[i]? = some x ∧ Γ.N[j]? = some y) ∨
    ∃ i j l x px y py z pz, is = [i, j, l] ∧ ts = [.Name x px, .Name y py, .Name z pz] ∧ lclB Γ x = true ∧ lclB Γ y = true ∧ lclB Γ z = true ∧ ns = [x, y, z] ∧ Γ.N[i]? = some x ∧ Γ.N[j]? = some y ∧ Γ.N[l]? = some z := by
  unfold swOk at h
  split at h
  · obtain ⟨h, h5⟩ := and2 h
    obtain ⟨h, h4⟩ := and2 h
    obtain ⟨h, h3⟩ := and2 h
    obtain ⟨h1, h2⟩ := and2 h
    exact .inl ⟨_, _, _, _, _, _, rfl, rfl, h1, h2, of_decide_eq_true h3, of_decide_eq_true h4, of_decide_eq_true h5⟩
  · obtain ⟨h, h7⟩ := and2 h
    obtain ⟨h, h6⟩ := and2 h
    obtain ⟨h, h5⟩ := and2 h
    obtain ⟨h, h4⟩ := and2 h
    obtain ⟨h, h3⟩ := and2 h
    obtain ⟨h1, h2⟩ := and2 h
    exact .inr ⟨_, _, _, _, _, _, _, _, _, rfl, rfl, h1, h2, h3, of_decide_eq_true h4, of_decide_eq_true h5, of_decide_eq_true h6, of_decide_eq_true h7⟩
  · cases h
theorem comp_split {Γ : Ck} {own : List (Str × Nat)} {tg : List Nat} {one : Bool} {it : It} {cond : Cs} {elt : C} {elt' : Expr} {gs : List Comprehension} {scope : Scope} {pp : Pos} (h : chkE Γ (.comp own tg one it cond elt) (.ListComp elt' gs scope pp) = true) :
    ∃ tg' iter ifs, gs = [⟨tg', iter, ifs, 0⟩] ∧ (blkC Γ.N Γ.sc scope own && tgC (blkΓ Γ scope) tg one tg' && tg.all (fun i => decide (i ∈ own.map (·.2))) && notSetB iter && chkI Γ it tg' iter &&
      decide (cond.len ≤ 1) && chkEs (blkΓ Γ scope) cond ifs && chkE (blkΓ Γ scope) elt elt') = true := by
  unfold chkE at h
  split at h
  · rename_i heq
    cases heq
    exact ⟨_, _, _, rfl, h⟩
  · cases h
mutual
def chkS (Γ : Ck) : S → Stmt → Bool
  | .asg i c, s => (match s with
    | .Assign [.Name x p] (.ListComp elt gs scope pp) pos => decide (Γ.N[i]? = some x) && locB Γ x && chkE Γ c (.ListComp elt gs scope pp) && (!(lclB Γ x && (p.line == pp.line) && !(scope.names.any fun (n, k) => n == x && (k == .local || k == .cell))) || isComp c)
    | .Assign [.Name x _] e _ => decide (Γ.N[i]? = some x) && locB Γ x && notCompB e && chkE Γ c e
    | _ => false)
  | .unp is c, s => (match s with
    | .Assign [.Tuple ts _ _] e _ => tgB Γ is ts && !isTup e && chkE Γ c e
    | _ => false)
  | .par is cs, s => (match s with
    | .Assign [.Tuple ts k p] (.Tuple vs k2 p2) _ => tgB Γ is ts && chkEs Γ cs vs && decide (is.length ≤ 1000) && decide is.Nodup && (match swR Γ.sc ts vs with
      | some none => true
      | some (some ns) => swOk Γ is ts ns
      | none => false)
    | _ => false)
  | .setix r i c, s => (match s with
    | .Assign [.Subscript x y _] e _ => chkE Γ r x && chkE Γ i y && chkE Γ c e && plainIxB y
    | _ => false)
  | .set2 r1 i1 r2 i2 cs, s => (match s with
    | .Assign [.Tuple [.Subscript x1 y1 q1, .Subscript x2 y2 q2] k p] (.Tuple [v1, v2] k2 p2) _ => chkE Γ r1 x1 && chkE Γ i1 y1 && chkE Γ r2 x2 && chkE Γ i2 y2 && chkEs Γ cs [v1, v2] && plainIxB y1 && plainIxB y2 && (match swR Γ.sc [.Subscript x1 y1 q1, .Subscript x2 y2 q2] [v1, v2] with
      | some none => true
      | _ => false)
    | _ => false)
  | .exp c, s => (match s with
    | .Expr e _ => notCompB e && chkE Γ c e
    | _ => false)
  | .ite c a b, s => (match s with
    | .If e p q _ => chkE Γ c e && chkSs Γ a p && chkSs Γ b q
    | _ => false)
  | .fr tg one it b, s => (match s with
    | .For t e body [] _ => tgC Γ tg one t && notSetB e && chkI Γ it t e && chkSs Γ b body && it.hid.isNone
    | _ => false)
  | .whl n c b, s => (match s with
    | .While e body [] _ => chkE Γ c e && chkSs Γ b body
    | _ => false)
  | .brk, s => (match s with
    | .Break _ => true
    | _ => false)
  | .cnt, s => (match s with
    | .Continue _ => true
    | _ => false)
  | .pas, s => (match s with
    | .Pass _ => true
    | .Expr (.Constant (.str _) _ _) _ => true
    | _ => false)
  | .ret c, s => (match s with
    | .Return (some e) _ => chkE Γ c e
    | _ => false)
  | .retN, s => (match s with
    | .Return none _ => true
    | _ => false)
  | .never, _ => true
  | .rai c z, s => (match s with
    | .Raise (some (.Call (.Name x _) [.Constant (.str y) _ _] [] _)) none _ => decide (x = c) && decide (y = z) && decide (c ∈ Γ.xs) && glB Γ.sc x && nmB x
    | _ => false)
def chkSs (Γ : Ck) : Ss → List Stmt → Bool
  | .nil, ss => (match ss with
    | [] => true
    | _ => false)
  | .cons a b, ss => (match ss with
    | s :: rest => chkS Γ a s && chkSs Γ b rest
    | _ => false)
end
mutual
def CalS (R : Str → FnD → Prop) (R2 : Str → D → Prop) : S → Prop
  | .asg _ c => CalE R R2 c
  | .unp _ c => CalE R R2 c
  | .par _ cs => CalEs R R2 cs
  | .setix r i c => CalE R R2 r ∧ CalE R R2 i ∧ CalE R R2 c
  | .set2 r1 i1 r2 i2 cs => CalE R R2 r1 ∧ CalE R R2 i1 ∧ CalE R R2 r2 ∧ CalE R R2 i2 ∧ CalEs R R2 cs
  | .exp c => CalE R R2 c
  | .ite c a b => CalE R R2 c ∧ CalSs R R2 a ∧ CalSs R R2 b
  | .fr _ _ it b => CalI R R2 it ∧ CalSs R R2 b
  | .whl _ c b => CalE R R2 c ∧ CalSs R R2 b
  | .brk => True
  | .cnt => True
  | .pas => True
  | .ret c => CalE R R2 c
  | .retN => True
  | .never => True
  | .rai _ _ => True
def CalSs (R : Str → FnD → Prop) (R2 : Str → D → Prop) : Ss → Prop
  | .nil => True
  | .cons a b => CalS R R2 a ∧ CalSs R R2 b
end
theorem sS_rai {K : PySem.W.Frag} {en : Ent} {W : WX} {c z : Str} {C : Addr} {σ : L2.St} {H : Hp} {Dn : Ends} (e : en.xc c = .ref C) (q : tSt K en W (exec (.rai c z)) Dn σ H) : W (.ref C) none σ H := by
  obtain ⟨g, s, r, p⟩ := q
  exact p (.ref C) none σ g H r Keep.refl ⟨e.symm, rfl⟩
section
variable {X : Cx} {en : Ent} {W : WX} {Γ : Ck} {R : Str → FnD → Prop} {R2 : Str → D → Prop}
theorem _root_.L2.PS.impD {s : Stmt} {t t' : TS} (h : PS X s t) (w : ∀ Dn σ H, t' Dn σ H → t Dn σ H) : PS X s t' := ⟨fun pins s σ H Dn I q => h.run pins s σ H Dn I (w Dn σ H q)⟩
theorem _root_.L2.PSs.impD {s : List Stmt} {t t' : TS} (h : PSs X s t) (w : ∀ Dn σ H, t' Dn σ H → t Dn σ H) : PSs X s t' := ⟨fun pins s σ H Dn I q => h.run pins s σ H Dn I (w Dn σ H q)⟩
theorem sw_no {e : Expr} {t : Option Expr} {l : Nat} {env : Env} (h : notCompB e = true) : swapsWith e t l env = pure false := by
  cases e <;> first | rfl | cases h
theorem XOk.lcl (k : XOk X en W Γ R R2) {x : Str} (h : lclB Γ x = true) : X.env.scope.names.lookup x = some .local := by
  rw [k.scope]
  unfold lclB at h
  split at h
  · assumption
  · cases h
theorem okS_comp (k : XOk X en W Γ R R2) (hkind : X.env.scope.kind = .function) {i : Nat} {x : Str} {p pp pos : Pos} {elt : Expr} {gs : List Comprehension} {scope : Scope} {c : C} (hi : X.N[i]? = some x) (hl : Γ.N[i]? = some x) (lo : L2.Loc X.env.scope x) (lf : X.fn x = true ∨ X.env.scope.names.lookup x = some .local)
    (h : chkE Γ c (.ListComp elt gs scope pp) = true) (hc : (!(lclB Γ x && (p.line == pp.line) && !(scope.names.any fun (n, k) => n == x && (k == .local || k == .cell))) || isComp c) = true) (cal : CalE R R2 c) : PS X (.Assign [.Name x p] (.ListComp elt gs scope pp) pos) (tAsg (tSim X.K en W c) (gName i)) := by
  by_cases hb : (lclB Γ x && (p.line == pp.line) && !(scope.names.any fun (n, k) => n == x && (k == .local || k == .cell))) = true
  · rw [hb] at hc
    cases c with
    | comp own tg one it cond elt0 =>
      obtain ⟨hb, b3⟩ := and2 hb
      obtain ⟨b1, b2⟩ := and2 hb
      have b3 := Bool.not_eq_true' _ |>.mp b3
      obtain ⟨tg', iter, ifs, rfl, h⟩ := comp_split h
      · obtain ⟨h, h8⟩ := and2 h
        obtain ⟨h, h7⟩ := and2 h
        obtain ⟨h, h6⟩ := and2 h
        obtain ⟨h, h5⟩ := and2 h
        obtain ⟨h, h4⟩ := and2 h
        obtain ⟨h, h3⟩ := and2 h
        obtain ⟨h1, h2⟩ := and2 h
        have bo := blkOk_by h1
        rw [← k.N, ← k.scope] at bo
        have hcond : cond = .nil ∨ ∃ c, cond = .cons c .nil := by
          match cond, h6 with
          | .nil, _ => exact .inl rfl
          | .cons c .nil, _ => exact .inr ⟨c, rfl⟩
          | .cons _ (.cons _ cs), h6 =>
            have := of_decide_eq_true h6
            have h : cs.len + 1 + 1 ≤ 1 := this
            omega
        have htg : ∀ i ∈ tg, i ∈ own.map (·.2) := fun i hi => of_decide_eq_true (List.all_eq_true.mp h3 i hi)
        have hlen : ∀ i ∈ own.map (·.2), i < en.n := fun i hi => by
          obtain ⟨p, hp, rfl⟩ := List.mem_map.mp hi
          rw [← k.nn]
          exact get_len (bo.ix p hp)
        have pi := okI it k h5 cal.1
        have hs : ∀ x, foldedSetIterable iter X.env x = pure x := fun x => by
          cases iter <;> first | rfl | cases h4
        refine (ps_setLc (g := gT X.K tg one) (tt := tCond X.K en noW cond) (te := tSim X.K en noW elt0) k.calm k.nd hi (k.lcl b1) (sw_true hkind (k.lcl b1) b2 b3) pi bo (fun s H C cl fp => (tgC_pg (k.blk scope s H C cl fp) h2).1) (fun s H C cl fp => ?_) (fun s H C cl fp => ?_) hs).impD fun Dn σ H q => comp_as hcond htg hlen q
        · have kb := k.blk scope s H C cl fp
          have al := okEs cond kb h7 cal.2.1
          rcases hcond with e1 | ⟨c, e1⟩
          · subst e1
            match ifs, al with
            | [], _ => exact pts_nil
          · subst e1
            match ifs, al with
            | [x], al => exact pts_one al.1.t
        · exact (okE elt0 (k.blk scope s H C cl fp) h8 cal.2.2).v
    | _ => cases hc
  · refine ps_set k.nd hi lo (okE c k h cal).v ?_ lf
    have hbk : X.env.blockKind = .function := by unfold Env.blockKind; rw [hkind]; rfl
    have hb : (lclB Γ x && (p.line == pp.line) && !(scope.names.any fun (n, k) => n == x && (k == .local || k == .cell))) = false := Bool.eq_false_iff.mpr hb
    unfold swapsWith
    simp only [hbk, Expr.pos]
    have e : (X.env.kindOf x == some .local) = lclB Γ x := by
      show (X.env.scope.names.lookup x == some .local) = _
      rw [k.scope]
      unfold lclB
      split
      · rename_i q; rw [q]; rfl
      · rename_i q
        cases z : Γ.sc.names.lookup x with
        | none => rfl
        | some nk =>
          cases nk <;> first | rfl | exact absurd z q
    rw [e]
    have e2 : ((ScopeKind.function == ScopeKind.function) && lclB Γ x && p.line == pp.line && !(scope.names.any fun (n, k) => n == x && (k == .local || k == .cell))) = false := by
      rw [show (ScopeKind.function == ScopeKind.function) = true from rfl, Bool.true_and]
      exact hb
    show pure _ = pure false
    rw [e2]
theorem okPar (k : XOk X en W Γ R R2) (hkind : X.env.scope.kind = .function) {is : List Nat} {cs : Cs} {ts vs : List Expr} {k1 k2 : Nat} {p p2 pos : Pos} (h1 : tgB Γ is ts = true) (al : AL X en W cs vs) (hz : is.length ≤ 1000) (nd : is.Nodup)
    (h : (match swR Γ.sc ts vs with
      | some none => true
      | some (some ns) => swOk Γ is ts ns
      | none => false) = true) : PS X (.Assign [.Tuple ts k1 p] (.Tuple vs k2 p2) pos) (tSt X.K en W (exec (.par is cs))) := by
  obtain ⟨q1, q2, q3, q4⟩ := tgB_pgs k h1
  cases hs : swR Γ.sc ts vs with
  | none => rw [hs] at h; cases h
  | some o =>
    have hw := swR_of (k := k1) (k2 := k2) (p := p) (p2 := p2) hkind (by rw [k.scope]; exact hs)
    cases o with
    | none =>
      exact (ps_asg (sS_parT (is := is) (cs := cs) (σ := []) (H := fun _ => none) (Dn := ⟨fun _ _ => True, fun _ _ => True, fun _ _ => True, fun _ _ => True⟩) q4 (by rw [sizeLine_eq]; omega) (al.paf al.ns)) (pg_tup k.calm q1 q3 q2) rfl hw rfl).impD fun Dn σ H q => sS_parT' q4 (by rw [sizeLine_eq]; omega) q
    | some ns =>
      rw [hs] at h
      have pa := al.paf al.ns
      rcases swOk_of h with ⟨i, j, x, px, y, py, rfl, rfl, e1, e2, rfl, a1, a2⟩ | ⟨i, j, l, x, px, y, py, z, pz, rfl, rfl, e1, e2, e3, rfl, a1, a2, a3⟩
      · rw [← k.N] at a1 a2
        match vs, hs, hw, pa with
        | [a, b], hs, hw, pa =>
          have hij : i ≠ j := by
            intro q
            subst q
            simp at nd
          exact (ps_par k.calm k.nd a1 a2 hij (k.lcl e1) (k.lcl e2) pa hw rfl).impD fun Dn σ H q => sS_par2 q4 q
        | [], hs, _, _ => cases hs
        | [_], hs, _, _ => cases hs
        | _ :: _ :: _ :: _, hs, _, _ => cases hs
      · rw [← k.N] at a1 a2 a3
        have hd : i ≠ j ∧ i ≠ l ∧ j ≠ l := by
          simp at nd
          exact ⟨nd.1.1, nd.1.2, nd.2⟩
        match vs, hs, hw, pa with
        | [a, b, c], hs, hw, pa => exact (ps_par3 k.calm k.nd a1 a2 a3 hd.1 hd.2.1 hd.2.2 (k.lcl e1) (k.lcl e2) (k.lcl e3) pa hw rfl).impD fun Dn σ H q => sS_par3 q4 q
        | [], hs, _, _ => cases hs
        | [_], hs, _, _ => cases hs
        | [_, _], hs, _, _ => cases hs
        | _ :: _ :: _ :: _ :: _, hs, _, _ => cases hs
theorem ret_of (k : XOk X en W Γ R R2) {c : C} {e : Expr} {pos : Pos} (h : chkE Γ c e = true) (cal : CalE R R2 c) : PS X (.Return (some e) pos) (tSt X.K en W (exec (.ret c))) := by
  have q := okE c k h cal
  by_cases hc : ∃ i, c = .var i
  · obtain ⟨i, rfl⟩ := hc
    unfold chkE at h
    split at h
    · obtain ⟨h, h3⟩ := and2 h
      obtain ⟨h1, h2⟩ := and2 h
      have h1 := of_decide_eq_true h1
      rw [← k.N] at h1
      have n := nmB_of h3
      exact (ps_ret (pe_var h1 (k.vis h2) n.1 n.2)).impD fun Dn σ H q => sS_retv q
    · cases h
  · exact (ps_ret q.v).impD fun Dn σ H q => sS_ret (fun i z => hc ⟨i, z⟩) q
mutual
theorem okS (hp : PassesOwn (model X.prog X.w) X.A X.env X.xe) (hkind : X.env.scope.kind = .function) : ∀ (s : S) {st : Stmt}, XOk X en W Γ R R2 → chkS Γ s st = true → CalS R R2 s → PS X st (tSt X.K en W (exec s))
  | .asg i c, st, k, h, cal => by
    unfold chkS at h
    split at h
    · rename_i x p elt gs scope pp pos
      obtain ⟨h, h4⟩ := and2 h
      obtain ⟨h, h3⟩ := and2 h
      obtain ⟨h1, h2⟩ := and2 h
      have h1 := of_decide_eq_true h1
      have hn := h1
      rw [← k.N] at hn
      obtain ⟨l1, l2⟩ := k.loc h2
      have hi : i < en.n := by rw [← k.nn]; exact get_len hn
      exact (okS_comp k hkind hn h1 l1 l2 h3 h4 cal).impD fun Dn σ H q => sS_asg hi q
    · rename_i x p e pos _
      obtain ⟨h, h4⟩ := and2 h
      obtain ⟨h, h3⟩ := and2 h
      obtain ⟨h1, h2⟩ := and2 h
      have h1 := of_decide_eq_true h1
      rw [← k.N] at h1
      obtain ⟨l1, l2⟩ := k.loc h2
      have hi : i < en.n := by rw [← k.nn]; exact get_len h1
      exact (ps_set k.nd h1 l1 (okE c k h4 cal).v (sw_no h3) l2).impD fun Dn σ H q => sS_asg hi q
    · cases h
  | .unp is c, st, k, h, cal => by
    unfold chkS at h
    split at h
    · rename_i ts k1 p e pos
      obtain ⟨h, h3⟩ := and2 h
      obtain ⟨h1, h2⟩ := and2 h
      obtain ⟨q1, q2, q3, q4⟩ := tgB_pgs k h1
      refine (ps_asg (okE c k h3 cal).v (pg_tup k.calm q1 q3 q2) ?_ ?_ rfl).impD fun Dn σ H q => sS_unp q4 q
      · cases e <;> rfl
      · cases e <;> first | rfl | cases h2
    · cases h
  | .par is cs, st, k, h, cal => by
    unfold chkS at h
    split at h
    · rename_i ts k1 p vs k2 p2 pos
      obtain ⟨h, h5⟩ := and2 h
      obtain ⟨h, h4⟩ := and2 h
      obtain ⟨h, h3⟩ := and2 h
      obtain ⟨h1, h2⟩ := and2 h
      exact okPar k hkind h1 (okEs cs k h2 cal) (of_decide_eq_true h3) (of_decide_eq_true h4) h5
    · cases h
  | .setix r i c, st, k, h, cal => by
    unfold chkS at h
    split at h
    · rename_i x y sp e pos
      obtain ⟨h, h4⟩ := and2 h
      obtain ⟨h, h3⟩ := and2 h
      obtain ⟨h1, h2⟩ := and2 h
      refine (ps_asg (okE c k h3 cal.2.2).v (pg_sub (okE r k h1 cal.1).o (okE i k h2 cal.2.1).v set_list ?_) ?_ rfl rfl).impD fun Dn σ H q => sS_setix q
      · intro v
        cases y <;> first | rfl | cases h4
      · cases e <;> rfl
    · cases h
  | .set2 r1 i1 r2 i2 cs, st, k, h, cal => by
    unfold chkS at h
    split at h
    · rename_i x1 y1 q1 x2 y2 q2 k1 p v1 v2 k2 p2 pos
      obtain ⟨h, h8⟩ := and2 h
      obtain ⟨h, h7⟩ := and2 h
      obtain ⟨h, h6⟩ := and2 h
      obtain ⟨h, h5⟩ := and2 h
      obtain ⟨h, h4⟩ := and2 h
      obtain ⟨h, h3⟩ := and2 h
      obtain ⟨h1, h2⟩ := and2 h
      have hs : swR Γ.sc [.Subscript x1 y1 q1, .Subscript x2 y2 q2] [v1, v2] = some none := by
        split at h8
        · assumption
        · cases h8
      have hw := swR_of (k := k1) (k2 := k2) (p := p) (p2 := p2) hkind (by rw [k.scope]; exact hs)
      have al := okEs cs k h5 cal.2.2.2.2
      have g1 : PG X (.Subscript x1 y1 q1) (gSub (tSimO X.K en W r1) (tSim X.K en W i1) rSetL) := pg_sub (okE r1 k h1 cal.1).o (okE i1 k h2 cal.2.1).v set_list (by
        intro v
        cases y1 <;> first | rfl | cases h6)
      have g2 : PG X (.Subscript x2 y2 q2) (gSub (tSimO X.K en W r2) (tSim X.K en W i2) rSetL) := pg_sub (okE r2 k h3 cal.2.2.1).o (okE i2 k h4 cal.2.2.2.1).v set_list (by
        intro v
        cases y2 <;> first | rfl | cases h7)
      exact (ps_asg (pe_tup (al.pa al.ns)) (pg_tup k.calm (pgs_cons g1 (pgs_cons g2 pgs_nil)) rfl rfl) rfl hw rfl).impD fun Dn σ H q => sS_set2 q
    · cases h
  | .exp c, st, k, h, cal => by
    unfold chkS at h
    split at h
    · obtain ⟨h1, h2⟩ := and2 h
      exact (ps_expr (okE c k h2 cal).v (sw_no h1)).impD fun Dn σ H q => sS_exp q
    · cases h
  | .ite c a b, st, k, h, cal => by
    unfold chkS at h
    split at h
    · obtain ⟨h, h3⟩ := and2 h
      obtain ⟨h1, h2⟩ := and2 h
      exact (ps_if (okE c k h1 cal.1).t (okSs hp hkind a k h2 cal.2.1) (okSs hp hkind b k h3 cal.2.2)).impD fun Dn σ H q => sS_ite q
    · cases h
  | .fr tg one it b, st, k, h, cal => by
    unfold chkS at h
    split at h
    · rename_i t e body pos
      obtain ⟨h, h5⟩ := and2 h
      have h5 : it.hid = none := Option.isNone_iff_eq_none.mp h5
      obtain ⟨h, h4⟩ := and2 h
      obtain ⟨h, h3⟩ := and2 h
      obtain ⟨h1, h2⟩ := and2 h
      obtain ⟨q1, q2⟩ := tgC_pg k h1
      have hs : ∀ x, foldedSetIterable e X.env x = pure x := fun x => by
        cases e <;> first | rfl | cases h2
      exact (ps_for hp k.calm (okI it k h3 cal.1) q1 (okSs hp hkind b k h4 cal.2) hs).impD fun Dn σ H q => sS_fr h5 q2 q
    · cases h
  | .whl n c b, st, k, h, cal => by
    unfold chkS at h
    split at h
    · obtain ⟨h1, h2⟩ := and2 h
      exact (ps_while hp (okE c k h1 cal.1).t (okSs hp hkind b k h2 cal.2)).impD fun Dn σ H q => sS_whl q
    · cases h
  | .brk, st, k, h, cal => by
    unfold chkS at h
    split at h
    · exact ps_break.impD fun Dn σ H q => sS_brk (X := X) (en := en) (W := W) q
    · cases h
  | .cnt, st, k, h, cal => by
    unfold chkS at h
    split at h
    · exact ps_continue.impD fun Dn σ H q => sS_cnt (X := X) (en := en) (W := W) q
    · cases h
  | .pas, st, k, h, cal => by
    unfold chkS at h
    split at h
    · exact ps_pass.impD fun Dn σ H q => sS_pas (X := X) (en := en) (W := W) q
    · exact ps_doc.impD fun Dn σ H q => sS_pas (X := X) (en := en) (W := W) q
    · cases h
  | .ret c, st, k, h, cal => by
    unfold chkS at h
    split at h
    · exact ret_of k h cal
    · cases h
  | .retN, st, k, h, cal => by
    unfold chkS at h
    split at h
    · exact ps_retN.impD fun Dn σ H q => sS_retN (X := X) (en := en) (W := W) q
    · cases h
  | .never, st, k, h, cal => ps_never.impD fun Dn σ H q => sS_never (X := X) (en := en) (W := W) q
  | .rai c z, st, k, h, cal => by
    unfold chkS at h
    split at h
    · obtain ⟨h, h5⟩ := and2 h
      obtain ⟨h, h4⟩ := and2 h
      obtain ⟨h, h3⟩ := and2 h
      obtain ⟨h1, h2⟩ := and2 h
      have h1 := of_decide_eq_true h1
      subst h1
      obtain ⟨C, e1, e2, e3, e4, e5, e6⟩ := k.xcl _ (of_decide_eq_true h3)
      exact (ps_raise k.calm k.tk (pmk_own PySem.F.excBase_ValueError e3 e2 e4 (raises_own e5 e6) (k.gl h4) (nmB_of h5).1)).impD fun Dn σ H q => sS_rai e1 q
    · cases h
theorem okSs (hp : PassesOwn (model X.prog X.w) X.A X.env X.xe) (hkind : X.env.scope.kind = .function) : ∀ (s : Ss) {st : List Stmt}, XOk X en W Γ R R2 → chkSs Γ s st = true → CalSs R R2 s → PSs X st (tSt X.K en W (execs s))
  | .nil, st, k, h, cal => by
    unfold chkSs at h
    split at h
    · exact pss_nil.impD fun Dn σ H q => sSs_nil (X := X) (en := en) (W := W) q
    · cases h
  | .cons a b, st, k, h, cal => by
    unfold chkSs at h
    split at h
    · obtain ⟨h1, h2⟩ := and2 h
      exact (pss_cons (okS hp hkind a k h1 cal.1) (okSs hp hkind b k h2 cal.2)).impD fun Dn σ H q => sSs_cons q
    · cases h
end
end
end Dd

/-! Dd19: a def by its core. -/
namespace Dd
open L2 PyProof.Rows PySem.Spec PySem

section
variable {P : Program} {w : World} {K : PySem.W.Frag} {mg : Str → Option Value} {base : Heap} {xc : Str → Value}
theorem FnG.mono {j k : Nat} {f : Addr} {fd : FuncData} {ps : List Str} {F : FnD} (G : FnG P w K mg base xc j f fd ps F) (h : j ≤ k) : FnG P w K mg base xc k f fd ps F :=
  ⟨G.len, fun A outer s H args us vs Q E hr => G.run A outer s H args us vs Q E (hr.mono h)⟩
/-- a def of the module that keeps its promise -/
def Has (P : Program) (w : World) (K : PySem.W.Frag) (mg : Str → Option Value) (base : Heap) (xc : Str → Value) (k : Nat) (x : Str) (F : FnD) : Prop :=
  ∃ (f : Addr) (fd : FuncData) (ps : List Str), FnG P w K mg base xc k f fd ps F ∧ mg x = some (.ref f) ∧ PySem.W.keepIn K (.ref f) = true ∧ Binds K fd ps []
theorem Has.mono {j k : Nat} {x : Str} {F : FnD} (h : Has P w K mg base xc j x F) (l : j ≤ k) : Has P w K mg base xc k x F := by
  obtain ⟨f, fd, ps, G, r⟩ := h
  exact ⟨f, fd, ps, G.mono l, r⟩
def HasG (K : PySem.W.Frag) (mg : Str → Option Value) (x : Str) (d : D) : Prop := ∃ u v, mg x = some u ∧ RelV v u ∧ ∀ g H, Rep K g H d v
theorem fnOf_len {np n : Nat} {b : Ss} {ds : List D} {h : CH} (q : fnOf np n b ds h ≠ .stuck) : ds.length = np := by
  unfold fnOf at q
  by_cases e : ds.length = np
  · exact e
  · rw [if_neg e] at q
    exact absurd rfl q
theorem sr_start {g : G} {H : Hp} {h : CH} {ds : List D} {vs : List V} {N : List Str} (c : Cells K g h H) (t : Reps K g H ds vs) (hl : ds.length ≤ N.length) :
    SR K ⟨N.length, g, H, xc⟩ g ⟨ds.map (fun d => some (d, false)) ++ List.replicate (N.length - ds.length) none, h⟩ (L2.start N vs) H := by
  have tl := t.length
  have no : ∀ (i : Nat) a, ¬ OwnAt (ds.map (fun d => some (d, false)) ++ List.replicate (N.length - ds.length) none) (L2.start N vs) i a := by
    rintro i a ⟨d, e, _⟩
    by_cases hi : i < ds.length
    · rw [List.getElem?_append_left (by simpa using hi), List.getElem?_map] at e
      cases z : ds[i]? with
      | none => rw [z] at e; cases e
      | some d' => rw [z] at e; cases e
    · rw [List.getElem?_append_right (by simpa using hi), List.getElem?_replicate] at e
      split at e <;> cases e
  refine ⟨Keep.refl.less fun a ⟨i, q⟩ => absurd q (no i a), ⟨?_, ?_⟩, fun i d o e => ?_, fun i j a q => absurd q (no i a), c, fun a ⟨i, q⟩ => absurd q (no i a)⟩
  · unfold L2.start
    simp only [List.length_append, List.length_map, List.length_replicate]
    omega
  · show (_ : List _).length = N.length
    simp only [List.length_append, List.length_map, List.length_replicate]
    omega
  · by_cases hi : i < ds.length
    · rw [List.getElem?_append_left (by simpa using hi), List.getElem?_map] at e
      cases z : ds[i]? with
      | none => rw [z] at e; cases e
      | some d' =>
        rw [z] at e
        cases e
        obtain ⟨v, e1, q⟩ := t.get z
        refine ⟨v, ?_, q⟩
        unfold L2.start
        rw [List.getElem?_append_left (by rw [List.length_map, ← tl]; exact hi), List.getElem?_map, e1]
        rfl
    · rw [List.getElem?_append_right (by simpa using hi), List.getElem?_replicate] at e
      split at e <;> cases e
/-- a def whose text is the core's -/
theorem fnG_of {k : Nat} {f : Addr} {x qual : Str} {ar : Arguments} {body : List Stmt} {sc : Scope} {dV kV doc pm cdv ct oc : Value} {an od : Option Addr} {osl : Array (Option Value)} {N ps : List Str} {b : Ss} {R : Str → FnD → Prop} {R2 : Str → D → Prop}
    (lk : K.lookup f = some ⟨oc, od, .func (PySem.W.fnOf x qual ar body sc dV kV doc pm an cdv ct), osl⟩) (hcd : PySem.W.codeIn K cdv qual = true) (S : FnScope N ps sc) {xs : List Str} (hck : chkSs ⟨N, sc, fun _ => true, xs⟩ b body = true)
    (hcal : CalSs R R2 b) (hR : ∀ x F, R x F → Has P w K mg base xc k x F) (hR2 : ∀ x d, R2 x d → HasG K mg x d) (hblt : ∀ x ∈ bltNames, mg x = none) (hsys : ∃ o, base.get? sysModules = some o) (hxs : ∀ c ∈ xs, RaiseK K mg xc c) :
    FnG P w K mg base xc (k + 1) f (PySem.W.fnOf x qual ar body sc dV kV doc pm an cdv ct) ps (fnOf ps.length N.length b) := by
  refine ⟨fun ds h q => fnOf_len q, fun A outer s H args us vs Q E hr hgd e0 hb r hsp => ?_⟩
  obtain ⟨g, h, ds, cc, rs, hF⟩ := hsp
  have hnp : ds.length = ps.length := by
    by_cases q : fnOf ps.length N.length b ds h = .stuck
    · rw [q] at hF; exact hF.elim
    · exact fnOf_len q
  have hl : vs.length = ps.length := by rw [← rs.length]; exact hnp
  have hpl : ps.length ≤ N.length := by
    have := congrArg List.length S.pre
    rw [List.length_take] at this
    omega
  have KX : K.In s.heap := e0.mod.kin.keeps fun a o e => (e0.bs a o e).1
  have par : ∀ y ∈ ps.zip us, sc.names.lookup y.1 = some .local ∨ (sc.names.lookup y.1 = some .cell ∧ ((cellsFrom (s.heap.objs.size + 1) sc.names []).lookup y.1).isSome = true) := by
    rintro ⟨n, v⟩ hy
    exact (S.par n (List.of_mem_zip hy).1).elim .inl fun q => .inr ⟨q, PySem.W.cellsFrom_some _ _ _ (.inl q)⟩
  refine codeAny_call_function hr.depth (KX _ _ lk) rfl S.co S.gen rfl (PySem.W.codeRec_of KX hcd) (hb _ _ _ _ (wpAny_newFunctionEnv_cells S.kind par fun env he s1 ic => ?_))
  subst he
  refine ⟨(e0.mod.nolimit.keeps fun a o e => (e0.bs a o e).1).keeps ic.toInCall.keep, codeAny_func ?_⟩
  have I : Inv (cxOf (L2.CX P w) P w K mg base N qual sc f cdv A outer s H E) [] (L2.start N vs) H s1 := inv_start S hr.hd e0 hl r ic
  have rd := hr.deeper (envOfC qual sc s.heap.objs.size f cdv)
  let en : Ent := ⟨N.length, g, H, xc⟩
  have xok : XOk (cxOf (L2.CX P w) P w K mg base N qual sc f cdv A outer s H E) en (fun cls d _ H' => E cls d H') ⟨N, sc, fun _ => true, xs⟩ R R2 :=
    { scope := rfl, N := rfl, nd := S.nd, nn := rfl, calm := rfl, gd := hgd, un := by have u := rd.un; show (A.deeper (envOfC qual sc s.heap.objs.size f cdv)).units + 200 < cLine; omega, fn := fun _ _ => rfl, sys := hsys,
      tk := takes_of rfl rfl rfl rfl, blt := hblt,
      cal := fun y F q => by
        obtain ⟨f', fd', ps', G, m, ki, bi⟩ := hR y F q
        exact ⟨f', fd', ps', k, G, rd, m, ki, bi⟩,
      glb := fun y d q => hR2 y d q, xcl := hxs }
  have hps := okSs (passes_of rfl) S.kind b xok hck hcal
  have fin : ∀ {σ' : L2.St} {H' : Hp} {v : V} {u : Value} {s' : Shared}, Inv (cxOf (L2.CX P w) P w K mg base N qual sc f cdv A outer s H E) [] σ' H' s' → RelV v u → Q v H' → CE outer P w H s Q u s' := fun J rv q => ⟨_, _, J.os, J.bare, J.base, J.hok, rv, q⟩
  have sr := sr_start (xc := xc) cc rs (by rw [hnp]; exact hpl)
  refine wpAny_mono (hps.run [] s1 (L2.start N vs) H { nx := fun _ H' => Q .non H', rt := Q } I ⟨g, _, sr, ?_⟩) (fun fl s' hs => ?_) fun e s' hs => hs
  · unfold fnOf at hF
    rw [if_pos hnp] at hF
    rw [← hnp] at hF
    cases he : execs b ⟨ds.map (fun d => some (d, false)) ++ List.replicate (N.length - ds.length) none, h⟩ with
    | ok fl s2 =>
      rw [he] at hF
      intro σ' g' H' r' kp
      have kp' : Keep none_ g H none_ g' H' := r'.keep.less fun a z => z.elim
      cases fl with
      | next => exact hF .non g' H' kp' r'.cells .non
      | ret d o => exact fun v rr => hF v g' H' kp' r'.cells rr
      | brk => exact hF.elim
      | cnt => exact hF.elim
    | exc x s2 =>
      rw [he] at hF
      exact fun cls dd σ' g' H' r' kp ex => hF cls dd g' H' (r'.keep.less fun a z => z.elim) r'.cells ex
    | stuck => rw [he] at hF; exact hF.elim
  · cases fl with
    | ret u =>
      obtain ⟨v, σ', H', J, rv, q⟩ := hs
      exact fin J rv q
    | next =>
      obtain ⟨σ', H', J, q⟩ := hs
      exact fin (v := V.non) (u := Value.none) J rfl q
    | brk =>
      obtain ⟨_, _, _, q⟩ := hs
      exact q.elim
    | cont =>
      obtain ⟨_, _, _, q⟩ := hs
      exact q.elim
end
end Dd

/-! Dd20: the law's own def, called by nobody. -/
namespace Dd
open L2 PyProof.Rows PySem.Spec PySem

section
variable {P : Program} {w : World} {K : PySem.W.Frag} {mg mb : Str → Option Value} {xc : Str → Value}
def g00 : G := ⟨fun _ => False, []⟩
theorem cells0 {H : Hp} : Cells K g00 [] H := ⟨rfl, List.nodup_nil, (fun _ z => nomatch z), (fun _ z => z.elim), fun l a co e _ => nomatch e⟩
/-- from a heap of the script alone -/
theorem end_core {k : Nat} {fa a : Addr} {fd : FuncData} {x : Str} {F : FnD} {s₁ : Shared} {vs : List Value} {ns : List Int} {H : Hp} (KX : K.In s₁.heap) (hns : s₁.heap.Ns mainGlobals mg) (hb : s₁.heap.Ns builtinsNs mb)
    (hbb : ∀ x : Str, x ≠ "__name__" → mb x = bootBuiltins x) (hlim : s₁.heap.NoLimit) (hg : s₁.gens = #[]) (ha : s₁.heap.get? a = some { cls := .type "list", data := .seq vs.toArray }) (hr : Room k callerA)
    (hsys : ∃ o, s₁.heap.get? sysModules = some o ∧ ∀ ys n, o.data ≠ .seq ys n) (G : ∀ base : Heap, K.In base → base.Ns mainGlobals mg → (∃ o, base.get? sysModules = some o) → FnG P w K mg base xc k fa fd [x] F) (bind : ∀ (s : Shared) (u : Value), BindsTo s fd ⟨[u], []⟩ [(x, u)]) (hF : ∃ h', F [.scr ns] [] = .ok (.bl true, false) h')
    (hO : Only H) (fz : FzL K g00 H a (ns.map V.int)) (hok : HOk P w H s₁.heap) (hA : ∀ b, H b ≠ none → b = a) (hK : H a ≠ none → K.lookup a = none) :
    codeAny (model P w) callerA (.call (.ref fa) ⟨[.ref a], []⟩) (fun r s' => r = .ok (.ret (.bool true)) ∧ OldK s₁.heap s'.heap ∧ s'.os = s₁.os ∧ AllBare s'.gens) s₁ := by
  have onlyA : ∀ {b : Addr} {u : HO}, H b = some u → b = a := fun {b u} q => hA b (by rw [q]; exact Option.some_ne_none _)
  have off : ∀ {b : Addr} {o : Obj}, s₁.heap.get? b = some o → (∀ ys n, o.data ≠ .seq ys n) → H b = none := by
    intro b o e d
    cases q : H b with
    | none => rfl
    | some u =>
      have z := onlyA q
      subst z
      rw [ha] at e
      cases e
      exact absurd rfl (d _ _)
  have lay : ∀ {b : Addr} {m : Str → Option Value}, s₁.heap.Ns b m → (hidT s₁.heap H).Ns b m := by
    rintro b m ⟨o, es, ep, e, d, r⟩
    refine ⟨o, es, ep, hidT_get e (off e fun ys n z => ?_), d, r⟩
    rw [d] at z
    cases z
  have kin : K.In (hidT s₁.heap H) := by
    intro b o e
    refine hidT_get (KX b o e) ?_
    cases q : H b with
    | none => rfl
    | some u =>
      have z := onlyA q
      subst z
      rw [hK (by rw [q]; exact Option.some_ne_none _)] at e
      cases e
  have e0 : Env0 P w K mg (hidT s₁.heap H) callerA [] s₁ H := by
    refine ⟨rfl, ⟨kin, lay hns, ⟨mb, lay hb, hbb⟩, ?_⟩, fun b o e => of_hidT e, Nat.le_of_eq (hidT_size _ _), trivial, (fun b z => nomatch z), hok, .of_eq hg⟩
    obtain ⟨mc, m1, m2⟩ := hlim
    exact ⟨mc, lay m1, m2⟩
  obtain ⟨hc, eF⟩ := hF
  refine codeAny_mono ((G _ kin (lay hns) (by obtain ⟨so, e1, e2⟩ := hsys; exact ⟨so, hidT_get e1 (off e1 e2)⟩)).run callerA [] s₁ H ⟨[.ref a], []⟩ [.ref a] [.ref a] (fun v _ => v = .bl true) (fun _ _ _ => False) hr rfl e0 (bind s₁ (.ref a)) (.cons rfl .nil)
    ⟨g00, [], [.scr ns], cells0, .cons (.scr fz) .nil, by
      rw [eF]
      intro v g' H' _ _ rr
      have rr : Rep K g' H' (.bl true) v := rr
      cases rr
      rfl⟩) fun r s' h => ?_
  cases r with
  | error e =>
    obtain ⟨_, _, _, _, _, _, _, _, _, _, _, _, z⟩ := h
    exact z.elim
  | ok fl =>
    cases fl with
    | ret u =>
      obtain ⟨v, H', os, bare, un, hok', r', q⟩ := h
      have q : v = .bl true := q
      subst q
      have eu : u = Value.bool true := r'
      subst eu
      refine ⟨rfl, OldK.of_keep fun b o e => ?_, os, bare⟩
      rcases hO b with z | ⟨ob, xs, z⟩
      · exact un.keep b o e z (fun z => nomatch z) (fun z => nomatch z)
      · have z2 := un.frzs b ob _ z
        obtain ⟨e1, _⟩ := hok b _ z
        obtain ⟨e2, _⟩ := hok' b _ z2
        rw [e] at e1
        cases e1
        exact e2
    | next => exact (show False from h).elim
    | brk => exact (show False from h).elim
    | cont => exact (show False from h).elim
theorem end_call {k : Nat} {fa a : Addr} {fd : FuncData} {x : Str} {F : FnD} {s₁ : Shared} {vs : List Value} {ns : List Int} (KX : K.In s₁.heap) (hns : s₁.heap.Ns mainGlobals mg) (hb : s₁.heap.Ns builtinsNs mb)
    (hbb : ∀ x : Str, x ≠ "__name__" → mb x = bootBuiltins x) (hlim : s₁.heap.NoLimit) (hg : s₁.gens = #[]) (ha : s₁.heap.get? a = some { cls := .type "list", data := .seq vs.toArray }) (hi : IntsAre vs ns) (hl : ns.length ≤ sizeLine) (hr : Room k callerA)
    (hsys : ∃ o, s₁.heap.get? sysModules = some o ∧ ∀ ys n, o.data ≠ .seq ys n) (G : ∀ base : Heap, K.In base → base.Ns mainGlobals mg → (∃ o, base.get? sysModules = some o) → FnG P w K mg base xc k fa fd [x] F) (bind : ∀ (s : Shared) (u : Value), BindsTo s fd ⟨[u], []⟩ [(x, u)]) (hF : ∃ h', F [.scr ns] [] = .ok (.bl true, false) h') :
    codeAny (model P w) callerA (.call (.ref fa) ⟨[.ref a], []⟩) (fun r s' => r = .ok (.ret (.bool true)) ∧ OldK s₁.heap s'.heap ∧ s'.os = s₁.os ∧ AllBare s'.gens) s₁ := by
  have rv := vals_ints hi
  cases hk : K.lookup a with
  | some o =>
    have e := KX a o hk
    rw [ha] at e
    cases e
    refine end_core (H := fun _ => none) KX hns hb hbb hlim hg ha hr hsys G bind hF (fun _ => .inl rfl) (.inr (.inr ⟨_, vs.toArray, _, hk, rfl, rfl, rfl, ?_, by simpa using rv⟩)) (fun b u z => by cases z) (fun b z => absurd rfl z) fun z => absurd rfl z
    rw [List.size_toArray, hi.length]
    exact hl
  | none =>
    let one : HO := .frz { cls := .type "list", data := .seq vs.toArray } (.lst (ns.map V.int))
    have at_ : ∀ {b : Addr}, b = a → (if b = a then some one else none) = some one := fun z => if_pos z
    have no : ∀ {b : Addr}, b ≠ a → (if b = a then some one else none) = none := fun z => if_neg z
    refine end_core (H := fun b => if b = a then some one else none) KX hns hb hbb hlim hg ha hr hsys G bind hF (fun b => ?_) (.inr (.inl ⟨_, at_ rfl⟩)) (fun b u z => ?_) (fun b z => ?_) fun _ => hk
    · by_cases q : b = a
      · exact .inr ⟨_, _, at_ q⟩
      · exact .inl (no q)
    · by_cases q : b = a
      · have z := (at_ q).symm.trans z
        cases z
        subst q
        exact ⟨ha, by rw [List.length_map]; exact hl, vs, _, rv, ha⟩
      · exact nomatch (no q).symm.trans z
    · by_cases q : b = a
      · exact q
      · exact absurd (no q) z
end
/-- a law, over a head by facts -/
theorem end_law {l : PySem.W.OpenLaw} {n k : Nat} {q : Program} {loose : List Str} {XP : (Str → Option Value) → Heap → Prop} {YP : World → Heap → Prop} {d : DefRec} {x : Str} {FD : FnD}
    (hn : l.most = some n) (hn2 : n ≤ sizeLine) (hdf : d.params.defaults = []) (hr : Room k callerA) (hF : ∀ ns : List Int, ns.length ≤ n → ∃ h', FD [.scr ns] [] = .ok (.bl true, false) h')
    (F : ∀ (w : World) (mg : Str → Option Value) (fa : Addr) (h : Heap), YP w h → h.Ns mainGlobals mg → mg d.name = some (.ref fa) →
      ∃ (K : PySem.W.Frag) (fd : FuncData) (xc : Str → Value), K.In h ∧ (∃ o, h.get? sysModules = some o ∧ ∀ ys n, o.data ≠ .seq ys n) ∧ (∀ (s : Shared) (u : Value), BindsTo s fd ⟨[u], []⟩ [(x, u)]) ∧ ∀ base : Heap, K.In base → base.Ns mainGlobals mg → (∃ o, base.get? sysModules = some o) → FnG l.prog w K mg base xc k fa fd [x] FD) :
    PySem.W.WalkO q loose XP YP l.row.toRowW d [] (fun f vs => PySem.call f vs) := by
  refine Att.attach_call hn hdf fun w s₀ s₁ mg mb fa o pm cd doc a vs ns G Y ho hd hcd hmg hobj hints hlen hg => ?_
  obtain ⟨K, fd, xc, KX, hsys, hb, hG⟩ := F w mg fa _ Y G.T.g hmg
  exact end_call KX G.T.g G.T.b G.T.builtins G.T.nolimit hg hobj hints (Nat.le_trans hlen hn2) hr hsys hG hb (hF ns hlen)
/-! the head's facts, and that the dict of the modules stands at its own place -/
def sysB : Option Obj → Bool
  | some ⟨_, _, .dict _ _, _⟩ => true
  | _ => false
theorem sysB_ok {o : Option Obj} (h : sysB o = true) : ∃ x, o = some x ∧ ∀ ys n, x.data ≠ .seq ys n := by
  unfold sysB at h
  split at h
  · exact ⟨_, rfl, fun ys n z => nomatch z⟩
  · cases h
def hookS (n : Nat) (fa : List He.Fa) (fn : List He.DefD) : PySem.W.Hook where
  α := He.AlD × Bool
  obs := fun s => (He.obsDG n fa fn s.heap.get?, sysB (s.heap.get? sysModules))
  val := fun _ => (He.valD fn, true)
  says := fun _ h => (∃ K : PySem.W.Frag, K.In h ∧ He.SaysD fa fn K) ∧ ∃ o, h.get? sysModules = some o ∧ ∀ ys n, o.data ≠ .seq ys n
  of := fun _ _ e => ⟨⟨_, He.frG_in, congrArg (fun z : He.AlD × Bool => z.1) e⟩, sysB_ok (congrArg (fun z : He.AlD × Bool => z.2) e)⟩
  keeps := fun _ _ _ ⟨⟨K, hK, c⟩, o, e, d⟩ k => ⟨⟨K, PySem.W.Frag.In.keeps hK k, c⟩, o, k _ _ e, d⟩
theorem hookS_eq {n : Nat} {fa : List He.Fa} {fn : List He.DefD} {g : Addr → Option Obj} {s : Shared} (h : ∀ a, g a = s.heap.get? a) : (He.obsDG n fa fn g, sysB (g sysModules)) = (hookS n fa fn).obs s := by
  have e : g = s.heap.get? := funext h
  rw [e]
  all_goals rfl
end Dd

/-! Dd21: a module's defs by their cores. -/
namespace Dd
open L2 PyProof.Rows PySem.Spec PySem

section
variable {P : Program} {w : World} {K : PySem.W.Frag} {mg : Str → Option Value} {base : Heap} {xc : Str → Value}
/-- a def of the module: where it stands -/
def DefAt (K : PySem.W.Frag) (mg : Str → Option Value) (x : Str) (st : Stmt) : Prop := ∃ f fd, FunD K x x (defArgs st) (defBody st) (defScope st) [] [] f fd ∧ mg x = some (.ref f)
/-- its parameters are plain -/
def Plain (st : Stmt) (x : Str) (ps : List Str) : Prop := ∀ (kV doc pm : Value) (an : Option Addr) (cdv ct : Value) (us : List Value), us.length = ps.length →
  bindArgs (PySem.W.fnOf x x (defArgs st) (defBody st) (defScope st) .none kV doc pm an cdv ct) ⟨us, []⟩ = pure (ps.zip us)
theorem fnG_def {k : Nat} {x : Str} {st : Stmt} {f : Addr} {fd : FuncData} {N ps xs : List Str} {b : Ss} (F : FunD K x x (defArgs st) (defBody st) (defScope st) [] [] f fd)
    (hS : C8.scC N ps (defScope st) = true) (hck : chkSs ⟨N, defScope st, fun _ => true, xs⟩ b (defBody st) = true) (hblt : ∀ x ∈ bltNames, mg x = none) (hsys : ∃ o, base.get? sysModules = some o) (hxs : ∀ c ∈ xs, RaiseK K mg xc c) (hcal : CalSs (Has P w K mg base xc k) (HasG K mg) b) :
    FnG P w K mg base xc (k + 1) f fd ps (fnOf ps.length N.length b) := by
  obtain ⟨oc, od, dV, kV, doc, pm, an, cdv, ct, osl, rfl, lk, hcd, _, _⟩ := F.ex
  exact fnG_of lk hcd (C8.fnScope_by hS) hck hcal (fun _ _ z => z) (fun _ _ z => z) hblt hsys hxs
theorem has_def {k : Nat} {x : Str} {st : Stmt} {N ps xs : List Str} {b : Ss} (d : DefAt K mg x st) (hS : C8.scC N ps (defScope st) = true) (hck : chkSs ⟨N, defScope st, fun _ => true, xs⟩ b (defBody st) = true) (hp : Plain st x ps)
    (hblt : ∀ x ∈ bltNames, mg x = none) (hsys : ∃ o, base.get? sysModules = some o) (hxs : ∀ c ∈ xs, RaiseK K mg xc c) (hcal : CalSs (Has P w K mg base xc k) (HasG K mg) b) : Has P w K mg base xc (k + 1) x (fnOf ps.length N.length b) := by
  obtain ⟨f, fd, F, hm⟩ := d
  exact ⟨f, fd, ps, fnG_def F hS hck hblt hsys hxs hcal, hm, F.kp, F.bindsN hp⟩
/-- a whole number of the module -/
theorem hasG_int {x : Str} {i : Int} (h : ∃ t, mg x = some (.int i t)) : HasG K mg x (.int i) := by
  obtain ⟨t, e⟩ := h
  exact ⟨_, .int i, e, ⟨t, rfl⟩, fun _ _ => .int i⟩
theorem hasG_str {x z : Str} (h : ∃ t, mg x = some (.str z t)) : HasG K mg x (.str z) := by
  obtain ⟨t, e⟩ := h
  exact ⟨_, .str z, e, ⟨t, rfl⟩, fun _ _ => .str z⟩
end
end Dd

/-! Dd40: a def that tells an exception's kind: its text's rules. -/
namespace Dd
open L2 PyProof.Rows PySem.Spec PySem

/-- what is tracked stays -/
def Ext (H H' : Hp) : Prop := ∀ a o, H a = some o → H' a = some o
theorem Ext.refl {H : Hp} : Ext H H := fun _ _ h => h
theorem Ext.trans {H H1 H2 : Hp} (a : Ext H H1) (b : Ext H1 H2) : Ext H H2 := fun x o h => b x o (a x o h)
theorem Ext.upd {H : Hp} {p : Addr} {o : HO} (h : H p = none) : Ext H (L2.upd H p o) := fun a u e => by
  have ne : a ≠ p := fun z => by rw [z, h] at e; cases e
  rw [upd_ne ne]
  exact e
/-! ### list.count of truths -/
section
variable {X : Cx}
def rCntB (K : PySem.W.Frag) : V → List V → Hp → VK → Prop := fun x xs H Q =>
  ∃ (p : Addr) (bs : List Bool) (k : Bool), x = .ref p ∧ xs = [.bl k] ∧ SqL K H p (bs.map V.bl) ∧ Q (.int (bs.count k : Nat)) H
theorem flat_bls (bs : List Bool) : (bs.map V.bl).all L2.flatV = true := by
  rw [List.all_map, List.all_eq_true]
  exact fun _ _ => rfl
theorem count_vals {k : Bool} : ∀ {bs : List Bool} {us : List Value}, Vals (bs.map V.bl) us → us.countP (eqU (.bl k)) = bs.count k
  | [], [], .nil => rfl
  | b :: bs, u :: us, .cons r t => by
    cases r
    rw [List.countP_cons, List.count_cons, count_vals t]
    rfl
theorem mt_cntB : MtR X "list.count" (rCntB X.K) := by
  intro pins s σ H x xs v us Q I rx rxs h
  obtain ⟨p, bs, k, rfl, rfl, hs, q⟩ := h
  cases rx
  obtain ⟨u, rfl, ru⟩ := rxs.one
  obtain ⟨its, rv, ⟨⟨cls, dd, data, sl⟩, n, ho, hc, hdn, hd⟩, hlen⟩ := I.list hs
  simp only at hc hd
  subst hc hd
  have em : ∀ {A : Around} {s : Shared}, ∀ y ∈ its, SeqAt.EqAt A s y u (eqU (.bl k) y) := fun {A s} => mem_eqAt (x := .bl k) ru rfl rv (flat_bls bs)
  have ec : its.toArray.toList.countP (eqU (.bl k)) = bs.count k := count_vals rv
  refine call_meets PySem.F.slot_list_count ⟨_, ho, rfl⟩ PySem.F.entry_list_count (PySem.F.args_list_count_2 _ _) (SeqAt.list_countAt p its.toArray n dd sl u (eqU (.bl k))) ⟨ho, ?_, ?_⟩
  · exact fun y hy => em y (by simpa using hy)
  · refine ⟨.int (bs.count k : Nat), H, I.tok _, ⟨s.toks, ?_⟩, q⟩
    show Value.int ((its.toArray.toList.countP (eqU (.bl k)) : Nat) : Int) s.toks = _
    rw [ec]
/-! ### isinstance of the exception in hand -/
theorem call_isG {a D : Addr} {oe : Obj} (hp : (a, oe) ∈ X.pn) (C : ExcC X.K D) (hz : Zc (.ref D) none oe) (hf : ∃ vs, oe.data = .fields vs) : CallR X (.builtin "isinstance") (rIsE X.K D a) := by
  intro pins s σ H xs us Q I r ⟨c, cv, b, exs, hcv, e, q⟩
  subst exs
  obtain ⟨u1, us1, eus, r1, r2⟩ : ∃ u us', us = u :: us' ∧ RelV (.ref a) u ∧ Vals [c] us' := by
    cases r with
    | cons x y => exact ⟨_, _, rfl, x, y⟩
  obtain ⟨u2, rfl, r3⟩ := r2.one
  subst eus
  have e1 : u1 = Value.ref a := r1
  subst e1
  have e2 := hcv _ r3
  subst e2
  have get := (I.pin (a, oe) (List.mem_append_left _ hp)).1
  have J : PySem.W.InstAt s.heap a oe D none := by
    cases oe with
    | mk oc od oda osl =>
      have z1 : oc = .ref D := hz.1
      have z2 : od = none := hz.2
      obtain ⟨vs, z3⟩ := hf
      have z3 : oda = .fields vs := z3
      subst z1 z2 z3
      exact ⟨get, rfl, rfl, trivial⟩
  have KX := PySem.W.handS_kitx_exc (ox := oe) (x := a) C.hg C.hk C.hs C.hd C.ha C.hn C.ht C.hm
  exact PySem.W.kia_one KX I.kIn J e (fun z => by cases z) fun tk => ⟨.bl b, H, I.kept (t' := tk) fun _ _ z => z, rfl, q⟩
end
/-! ### the text -/
def chkIs (e : Str) : List Expr → List Str → Bool
  | [], [] => true
  | .Call (.Name f _) [.Name x _, .Name c _] [] _ :: r, k :: ks => decide (f = "isinstance") && (decide (x = e) && (decide (c = k) && ((!(c == ("__debug__" : Str))) && chkIs e r ks)))
  | _, _ => false
def chkStr : List Expr → List Str → Bool
  | [], [] => true
  | .Constant (.str x) _ _ :: r, k :: ks => decide (x = k) && chkStr r ks
  | _, _ => false
/-- the exception's name, the list's, the words': plain locals of the def, in this order -/
structure Wn (X : Cx) (e v w : Str) (gl : Str → Prop) : Prop where
  N : X.N = [e, v, w]
  nd : X.N.Nodup
  fn : ∀ x, X.fn x = true
  le : X.env.scope.names.lookup e = some .local
  lv : X.env.scope.names.lookup v = some .local
  lw : X.env.scope.names.lookup w = some .local
  ne : (e == ("__debug__" : Str)) = false ∧ (e == ("__classdict__" : Str)) = false
  nv : (v == ("__debug__" : Str)) = false ∧ (v == ("__classdict__" : Str)) = false
  nw : (w == ("__debug__" : Str)) = false ∧ (w == ("__classdict__" : Str)) = false
  gl : ∀ x, gl x → Gl X x
/-- what is known of the exception in hand, an instance of C, and of the classes asked for -/
structure We (X : Cx) (a C : Addr) (is : Str → Option Bool) : Prop where
  pin : ∃ oe, (a, oe) ∈ X.pn ∧ Zc (.ref C) none oe ∧ ∃ vs, oe.data = .fields vs
  cls : ExcC X.K C
  blt : X.mg "isinstance" = none
  bve : X.mg "ValueError" = none
  ve : PySem.W.kitOne X.K (.ref C) (.type "ValueError") = some true
  is_ : ∀ c b, is c = some b → ∃ u, X.mg c = some (.ref u) ∧ PySem.W.kitOne X.K (.ref C) (.ref u) = some b
section
variable {X : Cx} {e v w : Str} {gl : Str → Prop} {a C : Addr} {is : Str → Option Bool} {pos : Pos}
theorem We.isr (h : We X a C is) : CallR X (.builtin "isinstance") (rIsE X.K C a) := by
  obtain ⟨oe, h1, h2, h3⟩ := h.pin
  exact call_isG h1 h.cls h2 h3
theorem Wn.pe (n : Wn X e v w gl) : PE X (.Name e pos) (tVar 0) := pe_var (by rw [n.N]; rfl) (.inl n.le) n.ne.1 n.ne.2
theorem Wn.pv (n : Wn X e v w gl) : PE X (.Name v pos) (tVar 1) := pe_var (by rw [n.N]; rfl) (.inl n.lv) n.nv.1 n.nv.2
theorem Wn.pw (n : Wn X e v w gl) : PE X (.Name w pos) (tVar 2) := pe_var (by rw [n.N]; rfl) (.inl n.lw) n.nw.1 n.nw.2
theorem boot_isi : bootBuiltins "isinstance" = some (.builtin "isinstance") := by decide +kernel
theorem boot_ve : bootBuiltins "ValueError" = some (.type "ValueError") := by decide +kernel
/-- isinstance(e, c) -/
def tIsx (a : Addr) (b : Bool) : TE := fun σ H Q => σ[0]? = some (some (.ref a)) ∧ Q (.bl b) H
theorem pe_isx (n : Wn X e v w gl) (h : We X a C is) (gi : Gl X "isinstance") {c : Str} {b : Bool} (hc : is c = some b) (gc : Gl X c) (nc : (c == ("__debug__" : Str)) = false) {p1 p2 p3 : Pos} : PE X (.Call (.Name "isinstance" p1) [.Name e p2, .Name c p3] [] pos) (tIsx a b) := by
  obtain ⟨u, m, k⟩ := h.is_ c b hc
  have pc : PE X (.Name c p3) (tC (.ref u)) := pe_glob gc m rfl nc
  refine (pe_callB (We.isr h) gi h.blt boot_isi (pa_cons n.pe (pa_cons pc pa_nil))).impD fun σ H Q q => ?_
  exact ⟨.ref a, q.1, .ref u, .ref u, b, rfl, fun z r => r, k, q.2⟩
theorem pe_isve (n : Wn X e v w gl) (h : We X a C is) (gi : Gl X "isinstance") (gc : Gl X "ValueError") {p1 p2 p3 : Pos} : PE X (.Call (.Name "isinstance" p1) [.Name e p2, .Name "ValueError" p3] [] pos) (tIsx a true) := by
  have pc : PE X (.Name "ValueError" p3) (tC (.ty "ValueError")) := pe_bltn gc h.bve boot_ve rfl
  refine (pe_callB (We.isr h) gi h.blt boot_isi (pa_cons n.pe (pa_cons pc pa_nil))).impD fun σ H Q q => ?_
  exact ⟨.ref a, q.1, .ty "ValueError", .type "ValueError", true, rfl, fun z r => r, h.ve, q.2⟩
/-- [isinstance(e, c), ..] -/
def tIsL (a : Addr) (bs : List Bool) : TA := fun σ H Q => σ[0]? = some (some (.ref a)) ∧ Q (bs.map .bl) H
def isAll (is : Str → Option Bool) : List Str → List Bool → Prop
  | [], [] => True
  | c :: cs, b :: bs => is c = some b ∧ isAll is cs bs
  | _, _ => False
theorem pa_isL (n : Wn X e v w gl) (h : We X a C is) (gi : Gl X "isinstance") : ∀ (es : List Expr) (cs : List Str) (bs : List Bool), chkIs e es cs = true → (∀ c ∈ cs, gl c) → isAll is cs bs → PA X es (tIsL a bs)
  | [], [], [], _, _, _ => pa_nil.impD fun σ H Q q => q.2
  | [], [], _ :: _, _, _, h3 => h3.elim
  | [], _ :: _, _, h1, _, _ => by cases h1
  | _ :: _, [], _, h1, _, _ => by
    unfold chkIs at h1
    split at h1 <;> first | contradiction | cases h1
  | _ :: _, _ :: _, [], _, _, h3 => h3.elim
  | x :: es, c :: cs, b :: bs, h1, h2, h3 => by
    unfold chkIs at h1
    split at h1
    · rename_i z
      cases z
    · rename_i f p1 y p2 c' p3 pp r k ks e1 e2
      cases e1
      cases e2
      simp only [Bool.and_eq_true, decide_eq_true_eq, Bool.not_eq_true'] at h1
      obtain ⟨hf, hx, hc, nc, h1⟩ := h1
      rw [hf, hx, hc]
      rw [hc] at nc
      refine (pa_cons (pe_isx n h gi h3.1 (n.gl _ (h2 _ List.mem_cons_self)) nc) (pa_isL n h gi es cs bs h1 (fun c hc => h2 c (List.mem_cons_of_mem _ hc)) h3.2)).impD fun σ H Q q => ?_
      exact ⟨q.1, q.1, q.2⟩
    · cases h1
theorem pa_strs : ∀ (es : List Expr) (ks : List Str), chkStr es ks = true → PA X es (fun _ H Q => Q (ks.map .str) H)
  | [], [], _ => pa_nil.impD fun σ H Q q => q
  | [], _ :: _, h1 => by cases h1
  | _ :: _, [], h1 => by
    unfold chkStr at h1
    split at h1 <;> first | contradiction | cases h1
  | x :: es, k :: ks, h1 => by
    unfold chkStr at h1
    split at h1
    · rename_i z
      cases z
    · rename_i y j p r k' ks' e1 e2
      cases e1
      cases e2
      simp only [Bool.and_eq_true, decide_eq_true_eq] at h1
      obtain ⟨rfl, h1⟩ := h1
      exact (pa_cons pe_str (pa_strs es ks h1)).impD fun σ H Q q => q
    · cases h1
/-! ### its statements -/
def asgT (a : Addr) (bs : List Bool) : TS := fun D σ H => bs.length ≤ 1000 ∧ σ[0]? = some (some (.ref a)) ∧ ∀ p, H p = none → D.nx (σ.set 1 (some (.ref p))) (L2.upd H p (.lst (bs.map .bl)))
theorem sz1000 {n : Nat} (h : n ≤ 1000) : n ≤ sizeLine := by rw [sizeLine_eq]; omega
theorem ps_isL (n : Wn X e v w gl) (h : We X a C is) (gi : Gl X "isinstance") {es : List Expr} {cs : List Str} {bs : List Bool} (h1 : chkIs e es cs = true) (h2 : ∀ c ∈ cs, gl c) (h3 : isAll is cs bs) {p1 p2 : Pos} : PS X (.Assign [.Name v p1] (.List es p2) pos) (asgT a bs) := by
  refine (ps_set (i := 1) n.nd (by rw [n.N]; rfl) (.inl n.lv) (pe_lst (pa_isL n h gi es cs bs h1 h2 h3)) rfl (.inl (n.fn v))).impD fun D σ H q => ?_
  exact ⟨q.2.1, by rw [List.length_map]; exact sz1000 q.1, q.2.2⟩
def catT (a : Addr) (bs : List Bool) : TS := fun D σ H => σ[0]? = some (some (.ref a)) ∧ ∃ (l : Addr) (xs : List V), σ[1]? = some (some (.ref l)) ∧ H l = some (.lst xs) ∧ xs.length + bs.length ≤ 1000 ∧
  ∀ H' p, Ext H H' → H' p = some (.lst (xs ++ bs.map .bl)) → D.nx (σ.set 1 (some (.ref p))) H'
theorem ps_isCat (n : Wn X e v w gl) (h : We X a C is) (gi : Gl X "isinstance") {es : List Expr} {cs : List Str} {bs : List Bool} (h1 : chkIs e es cs = true) (h2 : ∀ c ∈ cs, gl c) (h3 : isAll is cs bs) {p1 p2 p3 p4 : Pos} : PS X (.Assign [.Name v p1] (.BinOp (.Name v p2) .Add (.List es p3) p4) pos) (catT a bs) := by
  refine (ps_set (i := 1) n.nd (by rw [n.N]; rfl) (.inl n.lv) (pe_op op_cat n.pv (pe_lst (pa_isL n h gi es cs bs h1 h2 h3))) rfl (.inl (n.fn v))).impD fun D σ H q => ?_
  obtain ⟨q0, l, xs, q1, q2, q3, q4⟩ := q
  refine ⟨.ref l, q1, q0, by rw [List.length_map]; exact sz1000 (by omega), fun p hp => ?_⟩
  have ne : l ≠ p := fun z => by rw [z, hp] at q2; cases q2
  refine ⟨l, p, xs, bs.map .bl, rfl, rfl, by rw [upd_ne ne]; exact q2, upd_same, by rw [List.length_map]; exact sz1000 q3, fun p2 hp2 => ?_⟩
  exact q4 _ p2 ((Ext.upd hp).trans (Ext.upd hp2)) upd_same
def wordsT (ws : List Str) : TS := fun D σ H => ws.length ≤ 1000 ∧ ∀ p, H p = none → D.nx (σ.set 2 (some (.ref p))) (L2.upd H p (.lst (ws.map .str)))
theorem ps_words (n : Wn X e v w gl) {es : List Expr} {ws : List Str} (h1 : chkStr es ws = true) {p1 p2 : Pos} : PS X (.Assign [.Name w p1] (.List es p2) pos) (wordsT ws) := by
  refine (ps_set (i := 2) n.nd (by rw [n.N]; rfl) (.inl n.lw) (pe_lst (pa_strs es ws h1)) rfl (.inl (n.fn w))).impD fun D σ H q => ?_
  exact ⟨by rw [List.length_map]; exact sz1000 q.1, q.2⟩
theorem lslot_count : Slot "list" "count" "list.count" := PySem.F.slot_list_count
theorem lslot_index : Slot "list" "index" "list.index" := PySem.F.slot_list_index
/-- if v.count(True) != 1 or not isinstance(e, ValueError): .. -/
def onceT (a : Addr) : TS := fun D σ H => σ[0]? = some (some (.ref a)) ∧ ∃ (l : Addr) (bs : List Bool), σ[1]? = some (some (.ref l)) ∧ H l = some (.lst (bs.map .bl)) ∧ bs.count true = 1 ∧ D.nx σ H
theorem ps_once (n : Wn X e v w gl) (h : We X a C is) (gi : Gl X "isinstance") (gc : Gl X "ValueError") {p1 p2 p3 p4 p5 p6 p7 p8 p9 q1 q2 q3 q4 q5 : Pos} {j1 j2 j3 : Nat} {z : Str} (hl : (p2.endLine == p4.line) = true) :
    PS X (.If (.BoolOp .Or [.Compare (.Call (.Attribute (.Name v p1) "count" p2) [.Constant (.bool true) j1 p3] [] p4) [.NotEq] [.Constant (.int 1) j2 p5] p6, .UnaryOp .Not (.Call (.Name "isinstance" p7) [.Name e p8, .Name "ValueError" p9] [] q1) q2] q3) [.Return (some (.Constant (.str z) j3 q4)) q5] [] pos) (onceT a) := by
  have pc := pe_bm (X := X) PySem.F.plainAttrs_list lslot_count PySem.F.type_list_count mt_cntB (n.pv (pos := p1)) (pa_cons (pe_bl (b := true) (j := j1) (pos := p3)) pa_nil) rfl rfl hl rfl rfl (apos := p2) (cpos := p4)
  have p1 := pt_cmp (pos := p6) (pc_neI pc (pe_int (i := 1) (j := j2) (pos := p5)))
  have p2 := pt_not (pos := q2) (pt_val (pe_isve n h gi gc (p1 := p7) (p2 := p8) (p3 := p9) (pos := q1)))
  refine (ps_if ((pw_or p1 (pw_or1 p2)).pt) (pss_one (ps_ret pe_str)) pss_nil).impD fun D σ H q => ?_
  obtain ⟨q0, l, bs, q1, q2, q3, q4⟩ := q
  refine ⟨.ref l, q1, .inl ⟨rfl, _, .inl (.inl q2)⟩, l, bs, true, rfl, rfl, .inl (.inl q2), ?_⟩
  refine ⟨_, _, rfl, rfl, false, ?_, ?_⟩
  · rw [q3]; rfl
  · exact ⟨q0, true, rfl, q4⟩
/-- (words + [..])[v.index(True)] -/
def tellT (ws2 : List Str) : TS := fun D σ H => ∃ (l lw : Addr) (bs : List Bool) (ws : List Str) (j : Nat) (z : Str), σ[1]? = some (some (.ref l)) ∧ H l = some (.lst (bs.map .bl)) ∧ σ[2]? = some (some (.ref lw)) ∧ H lw = some (.lst (ws.map .str)) ∧ ws.length + ws2.length ≤ 1000 ∧
  bs[j]? = some true ∧ (∀ m, m < j → bs[m]? = some false) ∧ (ws ++ ws2)[j]? = some z ∧ ∀ H', Ext H H' → D.rt (.str z) H'
theorem ps_tell (n : Wn X e v w gl) {es : List Expr} {ws2 : List Str} (h1 : chkStr es ws2 = true) {p1 p2 p3 p4 p5 p6 p7 p8 : Pos} {j1 : Nat} (hl : (p5.endLine == p7.line) = true) :
    PS X (.Return (some (.Subscript (.BinOp (.Name w p1) .Add (.List es p2) p3) (.Call (.Attribute (.Name v p4) "index" p5) [.Constant (.bool true) j1 p6] [] p7) p8)) pos) (tellT ws2) := by
  have pi := pe_bm (X := X) PySem.F.plainAttrs_list lslot_index PySem.F.type_list_index mt_index (n.pv (pos := p4)) (pa_cons (pe_bl (b := true) (j := j1) (pos := p6)) pa_nil) rfl rfl hl rfl rfl (apos := p5) (cpos := p7)
  refine (ps_ret (pe_ix ix_list (pe_op op_cat n.pw (pe_lst (pa_strs es ws2 h1))) pi (fun _ _ => rfl))).impD fun D σ H q => ?_
  obtain ⟨l, lw, bs, ws, j, z, q1, q2, q3, q4, q5, q6, q7, q8, q9⟩ := q
  refine ⟨.ref lw, q3, by rw [List.length_map]; exact sz1000 (by omega), fun p hp => ?_⟩
  have ne : lw ≠ p := fun z => by rw [z, hp] at q4; cases q4
  refine ⟨lw, p, ws.map .str, ws2.map .str, rfl, rfl, by rw [upd_ne ne]; exact q4, upd_same, by rw [List.length_map, List.length_map]; exact sz1000 q5, fun p2 hp2 => ?_⟩
  have ext : Ext H (L2.upd (L2.upd H p (.lst (ws2.map .str))) p2 (.lst (ws.map .str ++ ws2.map .str))) := (Ext.upd hp).trans (Ext.upd hp2)
  have hl := ext _ _ q2
  refine ⟨.ref l, q1, .inl ⟨rfl, _, .inl (.inl hl)⟩, l, bs.map .bl, .bl true, j, .bl true, rfl, rfl, .inl (.inl hl), rfl, flat_bls bs, by rw [List.getElem?_map, q6]; rfl, rfl, fun m z' hm hz => ?_, ?_⟩
  · rw [List.getElem?_map, q7 m hm] at hz
    cases hz
    rfl
  · refine ⟨p2, ws.map .str ++ ws2.map .str, j, .str z, rfl, rfl, .inl (.inl upd_same), atI_nat ?_, q9 _ ext⟩
    rw [← List.map_append, List.getElem?_map, q8]
    rfl
end
/-! ### the whole text -/
structure WordT where
  e : Str
  v : Str
  w : Str
  c1 : List Str
  c2 : List Str
  c3 : List Str
  c4 : List Str
  w1 : List Str
  w2 : List Str
def lnB (a b : Pos) : Bool := a.endLine == b.line
def chkSt1 (T : WordT) : Stmt → Bool
  | .Assign [.Name x _] (.List es _) _ => decide (x = T.v) && chkIs T.e es T.c1
  | _ => false
def chkSt2 (T : WordT) (cs : List Str) : Stmt → Bool
  | .Assign [.Name x _] (.BinOp (.Name y _) .Add (.List es _) _) _ => decide (x = T.v) && (decide (y = T.v) && chkIs T.e es cs)
  | _ => false
def chkSt5 (T : WordT) : Stmt → Bool
  | .If (.BoolOp .Or [.Compare (.Call (.Attribute (.Name x _) m p2) [.Constant (.bool true) _ _] [] p4) [.NotEq] [.Constant (.int k) _ _] _, .UnaryOp .Not (.Call (.Name f _) [.Name y _, .Name c _] [] _) _] _) [.Return (some (.Constant (.str _) _ _)) _] [] _ =>
    decide (x = T.v) && (decide (m = "count") && (decide (k = 1) && (decide (f = "isinstance") && (decide (y = T.e) && (decide (c = "ValueError") && lnB p2 p4)))))
  | _ => false
def chkSt6 (T : WordT) : Stmt → Bool
  | .Assign [.Name x _] (.List es _) _ => decide (x = T.w) && chkStr es T.w1
  | _ => false
def chkSt7 (T : WordT) : Stmt → Bool
  | .Return (some (.Subscript (.BinOp (.Name x _) .Add (.List es _) _) (.Call (.Attribute (.Name y _) m p5) [.Constant (.bool true) _ _] [] p7) _)) _ => decide (x = T.w) && (decide (y = T.v) && (decide (m = "index") && (lnB p5 p7 && chkStr es T.w2)))
  | _ => false
def chkWord (T : WordT) : List Stmt → Bool
  | [s1, s2, s3, s4, s5, s6, s7] => chkSt1 T s1 && (chkSt2 T T.c2 s2 && (chkSt2 T T.c3 s3 && (chkSt2 T T.c4 s4 && (chkSt5 T s5 && (chkSt6 T s6 && chkSt7 T s7)))))
  | _ => false
/-- which word is told: the classes' truths, the place of the one that is true -/
structure Told (T : WordT) (is : Str → Option Bool) (z : Str) : Prop where
  ex : ∃ (b1 b2 b3 b4 : List Bool) (j : Nat), isAll is T.c1 b1 ∧ isAll is T.c2 b2 ∧ isAll is T.c3 b3 ∧ isAll is T.c4 b4 ∧ b1.length + (b2.length + (b3.length + b4.length)) ≤ 100 ∧ T.w1.length + T.w2.length ≤ 100 ∧ (b1 ++ b2 ++ b3 ++ b4).count true = 1 ∧
    (b1 ++ b2 ++ b3 ++ b4)[j]? = some true ∧ (∀ m, m < j → (b1 ++ b2 ++ b3 ++ b4)[m]? = some false) ∧ (T.w1 ++ T.w2)[j]? = some z
def toldT (a : Addr) (z : Str) : TS := fun D σ H => σ = [some (.ref a), none, none] ∧ ∀ H', Ext H H' → D.rt (.str z) H'
theorem pss_word {X : Cx} {T : WordT} {a C : Addr} {is : Str → Option Bool} {z : Str} {st : List Stmt} (hc : chkWord T st = true) (n : Wn X T.e T.v T.w fun x => x ∈ T.c1 ∨ x ∈ T.c2 ∨ x ∈ T.c3 ∨ x ∈ T.c4 ∨ x = "isinstance" ∨ x = "ValueError") (h : We X a C is) (t : Told T is z) : PSs X st (toldT a z) := by
  obtain ⟨b1, b2, b3, b4, j, t1, t2, t3, t4, tl, wl, tc, tj, tm, tz⟩ := t.ex
  have gi := n.gl "isinstance" (.inr (.inr (.inr (.inr (.inl rfl)))))
  have gv := n.gl "ValueError" (.inr (.inr (.inr (.inr (.inr rfl)))))
  unfold chkWord at hc
  split at hc
  case h_2 => cases hc
  rename_i s1 s2 s3 s4 s5 s6 s7
  simp only [Bool.and_eq_true] at hc
  obtain ⟨h1, h2, h3, h4, h5, h6, h7⟩ := hc
  have g1 : PS X s1 (asgT a b1) := by
    unfold chkSt1 at h1
    split at h1
    case h_2 => cases h1
    simp only [Bool.and_eq_true, decide_eq_true_eq] at h1
    obtain ⟨rfl, h1⟩ := h1
    exact ps_isL n h gi h1 (fun c hc => .inl hc) t1
  have gc : ∀ {cs : List Str} {bs : List Bool} {s : Stmt}, chkSt2 T cs s = true → (∀ c ∈ cs, c ∈ T.c1 ∨ c ∈ T.c2 ∨ c ∈ T.c3 ∨ c ∈ T.c4 ∨ c = "isinstance" ∨ c = "ValueError") → isAll is cs bs → PS X s (catT a bs) := by
    intro cs bs s hs hm ht
    unfold chkSt2 at hs
    split at hs
    case h_2 => cases hs
    simp only [Bool.and_eq_true, decide_eq_true_eq] at hs
    obtain ⟨rfl, rfl, hs⟩ := hs
    exact ps_isCat n h gi hs hm ht
  have g2 := gc h2 (fun c hc => .inr (.inl hc)) t2
  have g3 := gc h3 (fun c hc => .inr (.inr (.inl hc))) t3
  have g4 := gc h4 (fun c hc => .inr (.inr (.inr (.inl hc)))) t4
  have g5 : PS X s5 (onceT a) := by
    unfold chkSt5 at h5
    split at h5
    case h_2 => cases h5
    simp only [Bool.and_eq_true, decide_eq_true_eq] at h5
    obtain ⟨rfl, rfl, rfl, rfl, rfl, rfl, h5⟩ := h5
    exact ps_once n h gi gv h5
  have g6 : PS X s6 (wordsT T.w1) := by
    unfold chkSt6 at h6
    split at h6
    case h_2 => cases h6
    simp only [Bool.and_eq_true, decide_eq_true_eq] at h6
    obtain ⟨rfl, h6⟩ := h6
    exact ps_words n h6
  have g7 : PS X s7 (tellT T.w2) := by
    unfold chkSt7 at h7
    split at h7
    case h_2 => cases h7
    simp only [Bool.and_eq_true, decide_eq_true_eq] at h7
    obtain ⟨rfl, rfl, rfl, h7, h8⟩ := h7
    exact ps_tell n h8 h7
  refine (pss_cons g1 (pss_cons g2 (pss_cons g3 (pss_cons g4 (pss_cons g5 (pss_cons g6 (pss_one g7))))))).impD fun D σ H q => ?_
  obtain ⟨rfl, q⟩ := q
  refine ⟨by omega, rfl, fun p1 f1 => ?_⟩
  have x1 : Ext H (L2.upd H p1 (.lst (b1.map .bl))) := Ext.upd f1
  refine ⟨rfl, p1, _, rfl, upd_same, by rw [List.length_map]; omega, fun H2 p2 x2 e2 => ?_⟩
  refine ⟨rfl, p2, _, rfl, e2, by rw [List.length_append, List.length_map, List.length_map]; omega, fun H3 p3 x3 e3 => ?_⟩
  refine ⟨rfl, p3, _, rfl, e3, by rw [List.length_append, List.length_append, List.length_map, List.length_map, List.length_map]; omega, fun H4 p4 x4 e4 => ?_⟩
  rw [← List.map_append, ← List.map_append, ← List.map_append] at e4
  refine ⟨rfl, p4, _, rfl, e4, tc, ?_⟩
  refine ⟨by omega, fun p6 f6 => ?_⟩
  have x6 : Ext H4 (L2.upd H4 p6 (.lst (T.w1.map .str))) := Ext.upd f6
  refine ⟨p4, p6, b1 ++ b2 ++ b3 ++ b4, T.w1, j, z, rfl, x6 _ _ e4, rfl, upd_same, by omega, tj, tm, tz, fun H' x' => q H' ((((x1.trans x2).trans x3).trans x4).trans (x6.trans x'))⟩
end Dd

/-! Dd41: a def that asks another, and tells the kind of what is raised. -/
namespace Dd
open L2 PyProof.Rows PySem.Spec PySem

/-- what is known of a class of the program that is raised: C; of those that are asked for; its word -/
structure WordC (K : PySem.W.Frag) (mg : Str → Option Value) (T : WordT) (C : Addr) (z : Str) : Prop where
  cls : ExcC K C
  ve : PySem.W.kitOne K (.ref C) (.type "ValueError") = some true
  is_ : ∃ is : Str → Option Bool, (∀ c b, is c = some b → ∃ u, mg c = some (.ref u) ∧ PySem.W.kitOne K (.ref C) (.ref u) = some b) ∧ Told T is z
/-- the def that tells the word -/
structure WordF (K : PySem.W.Frag) (mg : Str → Option Value) (T : WordT) (x : Str) (f : Addr) (fd : FuncData) : Prop where
  ex : ∃ (qual : Str) (ar : Arguments) (body : List Stmt) (sc : Scope) (dV kV doc pm cdv ct oc : Value) (an od : Option Addr) (osl : Array (Option Value)), fd = PySem.W.fnOf x qual ar body sc dV kV doc pm an cdv ct ∧ K.lookup f = some ⟨oc, od, .func fd, osl⟩ ∧
    PySem.W.codeIn K cdv qual = true ∧ FnScope [T.e, T.v, T.w] [T.e] sc ∧ chkWord T body = true ∧ sc.names.lookup T.e = some .local ∧ sc.names.lookup T.v = some .local ∧ sc.names.lookup T.w = some .local ∧
    ∀ y, (y ∈ T.c1 ∨ y ∈ T.c2 ∨ y ∈ T.c3 ∨ y ∈ T.c4 ∨ y = "isinstance" ∨ y = "ValueError") → sc.names.lookup y = some .globalImplicit
  nm : (T.e == ("__debug__" : Str)) = false ∧ (T.e == ("__classdict__" : Str)) = false ∧ (T.v == ("__debug__" : Str)) = false ∧ (T.v == ("__classdict__" : Str)) = false ∧ (T.w == ("__debug__" : Str)) = false ∧ (T.w == ("__classdict__" : Str)) = false
  gm : mg x = some (.ref f)
  kp : PySem.W.keepIn K (.ref f) = true
  bi : Binds K fd [T.e] []
  bl : mg "isinstance" = none ∧ mg "ValueError" = none
section
variable {P : Program} {w : World} {K : PySem.W.Frag} {mg : Str → Option Value} {base : Heap} {T : WordT} {x : Str} {f C : Addr} {fd : FuncData} {z : Str}
theorem word_run (F : WordF K mg T x f fd) (c : WordC K mg T C z) {A : Around} {outer : List Env} {s : Shared} {H : Hp} {p : Addr × Obj} {Q : VK} {E : XK} (hr : A.depth < recursionLimit) (hpin : L2H.PinOk outer H s p) (hz : Zc (.ref C) none p.2) (hf : ∃ vs, p.2.data = .fields vs)
    (e0 : Env0 P w K mg base A outer s H) (hb : BindsTo s fd ⟨[.ref p.1], []⟩ [(T.e, .ref p.1)]) (hq : ∀ H', Ext H H' → Q (.str z) H') : codeAny (model P w) A (.call (.ref f) ⟨[.ref p.1], []⟩) (CR (L2.CX P w) outer P w H s Q E) s := by
  obtain ⟨qual, ar, body, sc, dV, kV, doc, pm, cdv, ct, oc, an, od, osl, rfl, lk, hcd, S, hck, l1, l2, l3, lg⟩ := F.ex
  obtain ⟨n1, n2, n3, n4, n5, n6⟩ := F.nm
  obtain ⟨is, is1, told⟩ := c.is_
  have KX : K.In s.heap := e0.mod.kin.keeps fun a o e => (e0.bs a o e).1
  have par : ∀ y ∈ [(T.e, Value.ref p.1)], sc.names.lookup y.1 = some .local ∨ (sc.names.lookup y.1 = some .cell ∧ ((cellsFrom (s.heap.objs.size + 1) sc.names []).lookup y.1).isSome = true) := by
    intro y hy
    rw [List.mem_singleton.mp hy]
    exact .inl l1
  refine codeAny_call_function hr (KX _ _ lk) rfl S.co S.gen rfl (PySem.W.codeRec_of KX hcd) (hb _ _ _ _ (wpAny_newFunctionEnv_cells S.kind par fun env he s1 ic => ?_))
  subst he
  refine ⟨(e0.mod.nolimit.keeps fun a o e => (e0.bs a o e).1).keeps ic.toInCall.keep, codeAny_func ?_⟩
  have vals : Vals [V.ref p.1] [Value.ref p.1] := .cons rfl .nil
  have I : Inv (L2H.cxH (L2.CX P w) P w K mg base [T.e, T.v, T.w] qual sc f cdv A outer s H E p) [] (L2.start [T.e, T.v, T.w] [V.ref p.1]) H s1 := L2H.inv_startH S hpin e0 rfl vals ic
  have wn : Wn (L2H.cxH (L2.CX P w) P w K mg base [T.e, T.v, T.w] qual sc f cdv A outer s H E p) T.e T.v T.w fun y => y ∈ T.c1 ∨ y ∈ T.c2 ∨ y ∈ T.c3 ∨ y ∈ T.c4 ∨ y = "isinstance" ∨ y = "ValueError" :=
    ⟨rfl, S.nd, fun _ => rfl, l1, l2, l3, ⟨n1, n2⟩, ⟨n3, n4⟩, ⟨n5, n6⟩, lg⟩
  have we : We (L2H.cxH (L2.CX P w) P w K mg base [T.e, T.v, T.w] qual sc f cdv A outer s H E p) p.1 C is := ⟨⟨p.2, List.mem_singleton.mpr rfl, hz, hf⟩, c.cls, F.bl.1, F.bl.2, c.ve, is1⟩
  have ps := pss_word hck wn we told
  refine wpAny_mono (ps.run [] s1 (L2.start [T.e, T.v, T.w] [V.ref p.1]) H { nx := fun _ H' => Q .non H', rt := Q } I ⟨rfl, hq⟩) (fun fl s' hs => ?_) fun e s' hs => hs
  cases fl with
  | ret u =>
    obtain ⟨v, σ', H', J, rv, q⟩ := hs
    exact ⟨v, H', J.os, J.bare, J.base, J.hok, rv, q⟩
  | next =>
    obtain ⟨σ', H', J, q⟩ := hs
    exact ⟨V.non, H', J.os, J.bare, J.base, J.hok, rfl, q⟩
  | brk =>
    obtain ⟨_, _, _, q⟩ := hs
    exact q.elim
  | cont =>
    obtain ⟨_, _, _, q⟩ := hs
    exact q.elim
/-- word(e), e the exception in hand -/
def tWordC (i : Nat) (a : Addr) (z : Str) : TE := fun σ H Q => σ[i]? = some (some (.ref a)) ∧ ∀ H', Ext H H' → Q (.str z) H'
theorem pe_word {X : Cx} {i : Nat} {e : Str} {p : Addr × Obj} {p1 p2 pos : Pos} (F : WordF X.K X.mg T x f fd) (c : WordC X.K X.mg T C z) (hp : p ∈ X.pn) (hz : Zc (.ref C) none p.2) (hf : ∃ vs, p.2.data = .fields vs) (hr : X.A.depth < recursionLimit) (hg : Gl X x) (hd : (x == ("__debug__" : Str)) = false) (hN : X.N[i]? = some e)
    (hv : X.env.scope.names.lookup e = some .local) (hed : (e == ("__debug__" : Str)) = false) (hec : (e == ("__classdict__" : Str)) = false) : PE X (.Call (.Name x p1) [.Name e p2] [] pos) (tWordC i p.1 z) := by
  have pa : PA X [.Name e p2] (tCons (tVar i) tNil) := pa_cons (pe_var hN (.inl hv) hed hec) pa_nil
  refine ⟨fun pins s σ H Q I h => wpAny_Call_Name_kw (ld_glob I hg F.gm (PySem.W.callWith_K (h₀ := X.base) I.ok.mod.kin F.kp (thn (pa.run pos pins s σ H (fun vs H1 => vs = [V.ref p.1] ∧ H1 = H) I ⟨_, h.1, rfl, rfl⟩) fun us s1 hh => ?_) rfl rfl) hd)⟩
  obtain ⟨vs, H1, I1, r, rfl, rfl⟩ := hh
  refine ⟨I1.kIn, ?_⟩
  obtain ⟨u, rfl, ru⟩ := r.one
  have eu : u = Value.ref p.1 := ru
  subst eu
  have b := F.bi s1 [.ref p.1] I1.kIn rfl
  rw [List.append_nil] at b
  have g := I1.pin p (List.mem_append_left _ hp)
  have pin : L2H.PinOk X.stack H1 s1 p := by
    refine ⟨g.1, g.2.1, fun hm => ?_, g.2.2.2.2⟩
    rcases List.mem_cons.mp (I1.stkSub p.1 hm) with q | q
    · exact g.2.2.1 q
    · exact g.2.2.2.1 q
  refine wpAny_call (codeAny_mono (word_run (E := fun _ _ _ => False) F c hr pin hz hf I1.env0 b h.2) fun res s' hq => ?_)
  cases res with
  | error er =>
    obtain ⟨_, _, _, _, _, _, _, _, _, no⟩ := hq
    exact no.2.2.2.elim
  | ok fl =>
    cases fl with
    | ret u => exact I1.after hq
    | next => exact (show False from hq).elim
    | brk => exact (show False from hq).elim
    | cont => exact (show False from hq).elim
end
end Dd

/-! Dd42: a def with a try; its core. -/
namespace Dd
open L2 PyProof.Rows PySem.Spec PySem

/-- asks F, tells of what is raised its word -/
def tryD (F : FnD) (wd : Str → Option Str) : FnD := fun ds h => match F ds h with
  | .ok r h' => .ok r h'
  | .exc x h' => (match x.arg, wd x.cls with
    | none, some z => .ok (.str z, false) h'
    | _, _ => .stuck)
  | .stuck => .stuck
/-- the text: try: b / except er as e: return x(e) -/
def chkTry (Γ : Ck) (b : Ss) (x e er : Str) : List Stmt → Bool
  | [.Try body [.ExceptHandler (some (.Name er' _)) (some n) [.Return (some (.Call (.Name x' _) [.Name e' _] [] _)) _] _] [] [] _] =>
    chkSs Γ b body && (decide (er' = er) && (decide (n = e) && (decide (x' = x) && (decide (e' = e) && (glB Γ.sc er && (glB Γ.sc x && (nmB er && (nmB x && (nmB e && lclB Γ e)))))))))
  | _ => false
/-- what is known of the classes that may come, of the def that tells their words -/
structure TryK (K : PySem.W.Frag) (mg : Str → Option Value) (xc : Str → Value) (T : WordT) (x er : Str) (wd : Str → Option Str) : Prop where
  wf : ∃ f fd, WordF K mg T x f fd
  er_ : ∃ R : Addr, mg er = some (.ref R) ∧ ∀ c z, wd c = some z → ∃ C : Addr, xc c = .ref C ∧ WordC K mg T C z ∧ PySem.W.exmOne K (.ref C) (.ref R) = some true
section
variable {P : Program} {w : World} {K : PySem.W.Frag} {mg : Str → Option Value} {base : Heap} {xc : Str → Value}
theorem fnG_try {k : Nat} {f : Addr} {x qual : Str} {ar : Arguments} {body : List Stmt} {sc : Scope} {dV kV doc pm cdv ct oc : Value} {an od : Option Addr} {osl : Array (Option Value)} {N ps : List Str} {b : Ss} {R : Str → FnD → Prop} {R2 : Str → D → Prop} {T : WordT} {xw e er : Str} {i : Nat} {wd : Str → Option Str}
    (lk : K.lookup f = some ⟨oc, od, .func (PySem.W.fnOf x qual ar body sc dV kV doc pm an cdv ct), osl⟩) (hcd : PySem.W.codeIn K cdv qual = true) (S : FnScope N ps sc) (hck : chkTry ⟨N, sc, fun _ => true, []⟩ b xw e er body = true) (hi : N[i]? = some e)
    (hcal : CalSs R R2 b) (hR : ∀ x F, R x F → Has P w K mg base xc k x F) (hR2 : ∀ x d, R2 x d → HasG K mg x d) (hblt : ∀ x ∈ bltNames, mg x = none) (hsys : ∃ o, base.get? sysModules = some o) (tk : TryK K mg xc T xw er wd) :
    FnG P w K mg base xc (k + 1) f (PySem.W.fnOf x qual ar body sc dV kV doc pm an cdv ct) ps (tryD (fnOf ps.length N.length b) wd) := by
  obtain ⟨fw, fdw, FW⟩ := tk.wf
  obtain ⟨er0, her, hcls⟩ := tk.er_
  refine ⟨fun ds h q => fnOf_len (np := ps.length) (n := N.length) (b := b) fun z => q (by unfold tryD; rw [z]), fun A outer s H args us vs Q E hr hgd e0 hb r hsp => ?_⟩
  obtain ⟨g, h, ds, cc, rs, hF⟩ := hsp
  have hnp : ds.length = ps.length := by
    by_cases q : fnOf ps.length N.length b ds h = .stuck
    · unfold tryD at hF
      rw [q] at hF
      exact hF.elim
    · exact fnOf_len q
  have hpl : ps.length ≤ N.length := by
    have := congrArg List.length S.pre
    rw [List.length_take] at this
    omega
  have KX : K.In s.heap := e0.mod.kin.keeps fun a o e => (e0.bs a o e).1
  have par : ∀ y ∈ ps.zip us, sc.names.lookup y.1 = some .local ∨ (sc.names.lookup y.1 = some .cell ∧ ((cellsFrom (s.heap.objs.size + 1) sc.names []).lookup y.1).isSome = true) := by
    rintro ⟨n, v⟩ hy
    exact (S.par n (List.of_mem_zip hy).1).elim .inl fun q => .inr ⟨q, PySem.W.cellsFrom_some _ _ _ (.inl q)⟩
  have hl : vs.length = ps.length := by rw [← rs.length]; exact hnp
  unfold chkTry at hck
  split at hck
  case h_2 => cases hck
  rename_i tb er' np n xw' p1 e' p2 p3 p4 p5 p6
  simp only [Bool.and_eq_true, decide_eq_true_eq] at hck
  obtain ⟨ck, rfl, rfl, rfl, rfl, g1, g2, n1, n2, n3, l1⟩ := hck
  refine codeAny_call_function hr.depth (KX _ _ lk) rfl S.co S.gen rfl (PySem.W.codeRec_of KX hcd) (hb _ _ _ _ (wpAny_newFunctionEnv_cells S.kind par fun env he s1 ic => ?_))
  subst he
  refine ⟨(e0.mod.nolimit.keeps fun a o e => (e0.bs a o e).1).keeps ic.toInCall.keep, codeAny_func ?_⟩
  have I : Inv (cxOf (L2.CX P w) P w K mg base N qual sc f cdv A outer s H E) [] (L2.start N vs) H s1 := inv_start S hr.hd e0 hl r ic
  have rd := hr.deeper (envOfC qual sc s.heap.objs.size f cdv)
  let en : Ent := ⟨N.length, g, H, xc⟩
  have hloc : sc.names.lookup e' = some .local := by
    unfold lclB at l1
    split at l1
    · assumption
    · cases l1
  have glo : ∀ {y : Str}, glB sc y = true → sc.names.lookup y = some .globalImplicit := fun {y} q => by
    unfold glB at q
    split at q
    · assumption
    · cases q
  have tkO : Takes (cxOf (L2.CX P w) P w K mg base N qual sc f cdv A outer s H E) (fun cls d _ H' => E cls d H') := takes_of rfl rfl rfl rfl
  have xok : ∀ (W : WX) (pn : List (Addr × Obj)) (xe : Value → Shared → Prop), Takes ((cxOf (L2.CX P w) P w K mg base N qual sc f cdv A outer s H E).tr pn xe) W → XOk ((cxOf (L2.CX P w) P w K mg base N qual sc f cdv A outer s H E).tr pn xe) en W ⟨N, sc, fun _ => true, []⟩ R R2 := fun W pn xe tW =>
    { scope := rfl, N := rfl, nd := S.nd, nn := rfl, calm := rfl, gd := hgd, un := by have u := rd.un; show (A.deeper (envOfC qual sc s.heap.objs.size f cdv)).units + 200 < cLine; omega, fn := fun _ _ => rfl, sys := hsys,
      tk := tW, blt := hblt,
      cal := fun y F q => by
        obtain ⟨f', fd', ps', G, m, ki, bi⟩ := hR y F q
        exact ⟨f', fd', ps', k, G, rd, m, ki, bi⟩,
      glb := fun y d q => hR2 y d q, xcl := fun _ z => nomatch z }
  -- the suite
  let ts : Addr → Value → Option Addr → TS := fun a cls d D σ H => ∃ (C : Addr) (z : Str), cls = .ref C ∧ d = none ∧ WordC K mg T C z ∧ σ[i]? = some (some (.ref a)) ∧ ∀ H', Ext H H' → D.rt (.str z) H'
  have suite : ∀ (a : Addr) (oe : Obj) (cls : Value) (d : Option Addr) (pn : List (Addr × Obj)), Zc cls d oe → (∃ vs, oe.data = .fields vs) → PSs ((cxOf (L2.CX P w) P w K mg base N qual sc f cdv A outer s H E).suite a ((a, oe) :: pn)) [.Return (some (.Call (.Name xw' p1) [.Name e' p2] [] p3)) p4] (ts a cls d) := by
    intro a oe cls d pn hz hf
    refine ⟨fun pins s2 σ2 H2 D J q => ?_⟩
    obtain ⟨C, z, rfl, rfl, wc, q1, q2⟩ := q
    have pw := pe_word (X := (cxOf (L2.CX P w) P w K mg base N qual sc f cdv A outer s H E).suite a ((a, oe) :: pn)) (i := i) (e := e') (p := (a, oe)) (p1 := p1) (p2 := p2) (pos := p3) FW wc List.mem_cons_self hz hf rd.depth (glo g2) (nmB_of n2).1 hi hloc (nmB_of n3).1 (nmB_of n3).2
    exact (pss_one (ps_ret pw)).run pins s2 σ2 H2 D J ⟨q1, q2⟩
  have names : Names (cxOf (L2.CX P w) P w K mg base N qual sc f cdv A outer s H E) er' (.ref er0) := ⟨glo g1, (nmB_of n1).1, .inl her⟩
  have hps := ps_try_as (X := cxOf (L2.CX P w) P w K mg base N qual sc f cdv A outer s H E) (i := i) (x := er') (n := e') (c := .ref er0) (np := np) (pos := p6) (pos' := p5) (body := tb) (suite := []) (b₀ := .Return (some (.Call (.Name xw' p1) [.Name e' p2] [] p3)) p4) (tb := fun W => tSt K en W (execs b)) (ts := ts) (Wout := fun cls d _ H' => E cls d H')
    rfl rfl S.nd hi hloc names tkO (fun W pn xe tW po => okSs po S.kind b (xok W pn xe tW) ck hcal) suite
  have fin : ∀ {σ' : L2.St} {H' : Hp} {v : V} {u : Value} {s' : Shared}, Inv (cxOf (L2.CX P w) P w K mg base N qual sc f cdv A outer s H E) [] σ' H' s' → RelV v u → Q v H' → CE outer P w H s Q u s' := fun J rv q => ⟨_, _, J.os, J.bare, J.base, J.hok, rv, q⟩
  have sr := sr_start (xc := xc) cc rs (by rw [hnp]; exact hpl)
  refine wpAny_mono ((pss_one hps).run [] s1 (L2.start N vs) H { nx := fun _ H' => Q .non H', rt := Q } I ⟨g, _, sr, ?_⟩) (fun fl s' hs => ?_) fun e s' hs => hs
  · unfold tryD fnOf at hF
    rw [if_pos hnp] at hF
    rw [← hnp] at hF
    cases he : execs b ⟨ds.map (fun d => some (d, false)) ++ List.replicate (N.length - ds.length) none, h⟩ with
    | ok fl s2 =>
      rw [he] at hF
      intro σ' g' H' r' kp
      have kp' : Keep none_ g H none_ g' H' := r'.keep.less fun a z => z.elim
      cases fl with
      | next => exact hF .non g' H' kp' r'.cells .non
      | ret d o => exact fun v rr => hF v g' H' kp' r'.cells rr
      | brk => exact hF.elim
      | cnt => exact hF.elim
    | exc y s2 =>
      rw [he] at hF
      intro cls dd σ' g' H' r' kp ex
      obtain ⟨ec, ea⟩ := ex
      cases ha : y.arg with
      | some d =>
        simp only [ha] at hF
      | none =>
        cases hw : wd y.cls with
        | none => simp only [ha, hw] at hF
        | some z =>
          simp only [ha, hw] at hF
          rw [ha] at ea
          obtain ⟨C, c1, c2, c3⟩ := hcls y.cls z hw
          have ecls : cls = .ref C := by rw [ec]; exact c1
          have edd : dd = none := ea
          subst ecls edd
          refine ⟨true, c3, fun _ a hna => ?_, fun z => nomatch z⟩
          have hil : i < N.length := (List.getElem?_eq_some_iff.mp hi).1
          have hσ : i < σ'.length := by
            have e1 := r'.len
            have e2 : s2.sl.length = N.length := r'.nn
            omega
          refine ⟨C, z, rfl, rfl, c2, by rw [List.getElem?_set_self hσ], fun H2 x2 => ?_⟩
          have k0 : Keep none_ g H none_ g' H' := r'.keep.less fun a z => z.elim
          exact hF (.str z) g' H2 (k0.trans (Keep.same x2)) (Cells.same r'.cells r'.apart x2) (.str z)
    | stuck => rw [he] at hF; exact hF.elim
  · cases fl with
    | ret u =>
      obtain ⟨v, σ', H', J, rv, q⟩ := hs
      exact fin J rv q
    | next =>
      obtain ⟨σ', H', J, q⟩ := hs
      exact fin (v := V.non) (u := Value.none) J rfl q
    | brk =>
      obtain ⟨_, _, _, q⟩ := hs
      exact q.elim
    | cont =>
      obtain ⟨_, _, _, q⟩ := hs
      exact q.elim
theorem has_try {k : Nat} {x : Str} {st : Stmt} {N ps : List Str} {b : Ss} {T : WordT} {xw e er : Str} {i : Nat} {wd : Str → Option Str} (d : DefAt K mg x st) (hS : C8.scC N ps (defScope st) = true) (hck : chkTry ⟨N, defScope st, fun _ => true, []⟩ b xw e er (defBody st) = true) (hi : N[i]? = some e) (hp : Plain st x ps)
    (hblt : ∀ x ∈ bltNames, mg x = none) (hsys : ∃ o, base.get? sysModules = some o) (tk : TryK K mg xc T xw er wd) (hcal : CalSs (Has P w K mg base xc k) (HasG K mg) b) : Has P w K mg base xc (k + 1) x (tryD (fnOf ps.length N.length b) wd) := by
  obtain ⟨f, fd, F, hm⟩ := d
  obtain ⟨oc, od, dV, kV, doc, pm, an, cdv, ct, osl, rfl, lk, hcd, _, _⟩ := id F.ex
  exact ⟨f, _, ps, fnG_try lk hcd (C8.fnScope_by hS) hck hi hcal (fun _ _ z => z) (fun _ _ z => z) hblt hsys tk, hm, F.kp, F.bindsN hp⟩
end
end Dd

/-! Dd43: the classes that are raised, the head's facts of them. -/
namespace Dd
open L2 PyProof.Rows PySem.Spec PySem

def xcOf (K : PySem.W.Frag) (c : Str) : Value := .ref (He.ga K c)
def excCB (K : PySem.W.Frag) (D : Addr) : Bool :=
  decide (PySem.W.findIn K (.ref D) "__getattribute__" = some (some (.builtin "BaseException.__getattribute__"))) && (decide (PySem.W.findIn K (.ref D) "__getattr__" = some none) && (decide (PySem.W.subIn K (.ref D) (.type "BaseException") = some true) && (PySem.W.hasDictIn K D &&
  (decide (PySem.W.findIn K (.ref D) "__class__" = some (some (.builtin "object.__class__"))) && (decide (PySem.W.specialIn K (.builtin "object.__class__") "__get__" = some (some (.builtin "getset_descriptor.__get__"))) && (decide (PySem.W.takesIn K (.builtin "object.__class__") = some true) &&
  decide (PySem.W.mroIn K D (.type "object") = some true)))))))
theorem excC_of {K : PySem.W.Frag} {D : Addr} (h : excCB K D = true) : ExcC K D := by
  unfold excCB at h
  simp only [Bool.and_eq_true, decide_eq_true_eq] at h
  obtain ⟨h1, h2, h3, h4, h5, h6, h7, h8⟩ := h
  exact ⟨h1, h2, h3, h4, h5, h6, h7, h8⟩
/-- of each class of xs: what isinstance asks of it, of those of ys -/
def exsB (K : PySem.W.Frag) (xs ys : List Str) : Bool := xs.all fun c => excCB K (He.ga K c) && (decide (PySem.W.kitOne K (.ref (He.ga K c)) (.type "ValueError") = some true) && ys.all fun y => decide (PySem.W.kitOne K (.ref (He.ga K c)) (.ref (He.ga K y)) = some (decide (y = c))))
def isOf (ys : List Str) (c : Str) : Str → Option Bool := fun y => if y ∈ ys then some (decide (y = c)) else none
def toldB (T : WordT) (ys : List Str) (c z : Str) : Bool :=
  let bs := (T.c1.map fun y => decide (y = c)) ++ (T.c2.map fun y => decide (y = c)) ++ (T.c3.map fun y => decide (y = c)) ++ (T.c4.map fun y => decide (y = c))
  let j := bs.idxOf true
  T.c1.all (fun y => decide (y ∈ ys)) && (T.c2.all (fun y => decide (y ∈ ys)) && (T.c3.all (fun y => decide (y ∈ ys)) && (T.c4.all (fun y => decide (y ∈ ys)) &&
  (decide (T.c1.length + (T.c2.length + (T.c3.length + T.c4.length)) ≤ 100) && (decide (T.w1.length + T.w2.length ≤ 100) && (decide (bs.count true = 1) && (decide (bs[j]? = some true) && ((List.range j).all (fun m => decide (bs[m]? = some false)) && decide ((T.w1 ++ T.w2)[j]? = some z)))))))))
theorem isAll_of {ys : List Str} {c : Str} : ∀ {cs : List Str}, (cs.all fun y => decide (y ∈ ys)) = true → isAll (isOf ys c) cs (cs.map fun y => decide (y = c))
  | [], _ => trivial
  | y :: cs, h => by
    rw [List.all_cons, Bool.and_eq_true] at h
    exact ⟨if_pos (of_decide_eq_true h.1), isAll_of h.2⟩
theorem told_of {T : WordT} {ys : List Str} {c z : Str} (h : toldB T ys c z = true) : Told T (isOf ys c) z := by
  unfold toldB at h
  simp only [Bool.and_eq_true, decide_eq_true_eq] at h
  obtain ⟨h1, h2, h3, h4, h5, h6, h7, h8, h9, h10⟩ := h
  refine ⟨_, _, _, _, _, isAll_of h1, isAll_of h2, isAll_of h3, isAll_of h4, by simpa only [List.length_map] using h5, h6, h7, h8, fun m hm => ?_, h10⟩
  exact of_decide_eq_true (List.all_eq_true.mp h9 m (List.mem_range.mpr hm))
section
variable {K : PySem.W.Frag} {mg : Str → Option Value} {T : WordT} {x er : Str} {ys : List Str} {wds : List (Str × Str)}
theorem lookup_mem {α β : Type} [BEq α] [LawfulBEq α] : ∀ {l : List (α × β)} {a : α} {b : β}, l.lookup a = some b → (a, b) ∈ l
  | [], _, _, h => by cases h
  | (c, d) :: l, a, b, h => by
    rw [List.lookup_cons] at h
    split at h
    · rename_i q
      cases h
      rw [eq_of_beq q]
      exact List.mem_cons_self
    · exact List.mem_cons_of_mem _ (lookup_mem h)
theorem tryK_of (wf : ∃ f fd, WordF K mg T x f fd) (hy : ∀ y ∈ ys, mg y = some (.ref (He.ga K y))) (he : mg er = some (.ref (He.ga K er))) (hx : ∀ p ∈ wds, PySem.W.exmOne K (.ref (He.ga K p.1)) (.ref (He.ga K er)) = some true) (hb : exsB K (wds.map (·.1)) ys = true) (ht : (wds.all fun p => toldB T ys p.1 p.2) = true) :
    TryK K mg (xcOf K) T x er (fun c => wds.lookup c) := by
  refine ⟨wf, He.ga K er, he, fun c z hc => ?_⟩
  have m := lookup_mem hc
  have b1 := List.all_eq_true.mp hb c (List.mem_map.mpr ⟨(c, z), m, rfl⟩)
  rw [Bool.and_eq_true, Bool.and_eq_true] at b1
  obtain ⟨b1, b2, b3⟩ := b1
  refine ⟨He.ga K c, rfl, ⟨excC_of b1, of_decide_eq_true b2, isOf ys c, fun y b q => ?_, told_of (List.all_eq_true.mp ht (c, z) m)⟩, hx (c, z) m⟩
  unfold isOf at q
  by_cases hm : y ∈ ys
  · rw [if_pos hm] at q
    cases q
    exact ⟨_, hy y hm, of_decide_eq_true (List.all_eq_true.mp b3 y hm)⟩
  · rw [if_neg hm] at q
    cases q
def wordSc (T : WordT) (sc : Scope) : Bool := decide (sc.names.lookup T.e = some .local) && (decide (sc.names.lookup T.v = some .local) && (decide (sc.names.lookup T.w = some .local) && (nmB T.e && (nmB T.v && (nmB T.w &&
  (T.c1 ++ T.c2 ++ T.c3 ++ T.c4 ++ [(Str.ofString "isinstance"), (Str.ofString "ValueError")]).all fun y => decide (sc.names.lookup y = some .globalImplicit))))))
theorem wordF_of {st : Stmt} (d : DefAt K mg x st) (hS : C8.scC [T.e, T.v, T.w] [T.e] (defScope st) = true) (hck : chkWord T (defBody st) = true) (hsc : wordSc T (defScope st) = true) (hp : Plain st x [T.e]) (b1 : mg "isinstance" = none) (b2 : mg "ValueError" = none) : ∃ f fd, WordF K mg T x f fd := by
  obtain ⟨f, fd, F, hm⟩ := d
  obtain ⟨oc, od, dV, kV, doc, pm, an, cdv, ct, osl, e, lk, hcd, _, _⟩ := id F.ex
  unfold wordSc at hsc
  simp only [Bool.and_eq_true, decide_eq_true_eq] at hsc
  obtain ⟨s1, s2, s3, s4, s5, s6, s7⟩ := hsc
  refine ⟨f, fd, ⟨⟨_, _, _, _, _, _, _, _, _, _, _, _, _, _, e, lk, hcd, C8.fnScope_by hS, hck, s1, s2, s3, fun y hy => ?_⟩, ?_, hm, F.kp, F.bindsN hp, b1, b2⟩⟩
  · have := List.all_eq_true.mp s7 y (by
      simp only [List.mem_append, List.mem_cons, List.not_mem_nil, or_false]
      rcases hy with h | h | h | h | h | h
      · exact .inl (.inl (.inl (.inl h)))
      · exact .inl (.inl (.inl (.inr h)))
      · exact .inl (.inl (.inr h))
      · exact .inl (.inr h)
      · exact .inr (.inl h)
      · exact .inr (.inr h))
    exact of_decide_eq_true this
  · exact ⟨(nmB_of s4).1, (nmB_of s4).2, (nmB_of s5).1, (nmB_of s5).2, (nmB_of s6).1, (nmB_of s6).2⟩
theorem raiseK_of {c : Str} (hg : mg c = some (.ref (He.ga K c))) (h : (He.Fa.exc c).ok K = true) : RaiseK K mg (xcOf K) c := by
  obtain ⟨h1, h2, h3, h4⟩ := He.exc_ok h
  exact ⟨He.ga K c, rfl, hg, h1, h2, h3, h4⟩
end
/-! ### the head's facts -/
def hookX (n : Nat) (fa : List He.Fa) (fn : List He.DefD) (xs ys : List Str) : PySem.W.Hook where
  α := He.AlD × Bool × Bool
  obs := fun s => (He.obsDG n fa fn s.heap.get?, sysB (s.heap.get? sysModules), exsB (He.frG s.heap.get? (He.asD s.heap.get? n)) xs ys)
  val := fun _ => (He.valD fn, true, true)
  says := fun _ h => (∃ K : PySem.W.Frag, K.In h ∧ He.SaysD fa fn K ∧ exsB K xs ys = true) ∧ ∃ o, h.get? sysModules = some o ∧ ∀ ys n, o.data ≠ .seq ys n
  of := fun _ _ e => ⟨⟨_, He.frG_in, congrArg (fun z : He.AlD × Bool × Bool => z.1) e, congrArg (fun z : He.AlD × Bool × Bool => z.2.2) e⟩, sysB_ok (congrArg (fun z : He.AlD × Bool × Bool => z.2.1) e)⟩
  keeps := fun _ _ _ ⟨⟨K, hK, c⟩, o, e, d⟩ k => ⟨⟨K, PySem.W.Frag.In.keeps hK k, c⟩, o, k _ _ e, d⟩
theorem hookX_eq {n : Nat} {fa : List He.Fa} {fn : List He.DefD} {xs ys : List Str} {g : Addr → Option Obj} {s : Shared} (h : ∀ a, g a = s.heap.get? a) : (He.obsDG n fa fn g, sysB (g sysModules), exsB (He.frG g (He.asD g n)) xs ys) = (hookX n fa fn xs ys).obs s := by
  have e : g = s.heap.get? := funext h
  rw [e]
  all_goals rfl
end Dd

/-! Dd30: what cores do, in plain Lean: rules. -/
namespace Dd

/-- o ends well, with Q -/
def WP {σ α : Type} (o : Out σ α) (Q : α → σ → Prop) : Prop := match o with
  | .ok a s => Q a s
  | _ => False
section
variable {σ α β : Type} {o : Out σ α} {Q Q' : α → σ → Prop}
@[simp] theorem WP_ok {a : α} {s : σ} : WP (.ok a s) Q = Q a s := rfl
theorem WP_mono (h : WP o Q) (w : ∀ a s, Q a s → Q' a s) : WP o Q' := by
  cases o with
  | ok a s => exact w a s h
  | exc x s => exact h
  | stuck => exact h
theorem WP_ex (h : WP o Q) : ∃ a s, o = .ok a s ∧ Q a s := by
  cases o with
  | ok a s => exact ⟨a, s, rfl, h⟩
  | exc x s => exact h.elim
  | stuck => exact h.elim
theorem WP_bind {f : α → σ → Out σ β} {R : β → σ → Prop} (h : WP o fun a s => WP (f a s) R) : WP (o.bind f) R := by
  cases o with
  | ok a s => exact h
  | exc x s => exact h
  | stuck => exact h
end
/-- behind a def's body -/
def retQ (Q : D × Bool → CH → Prop) : Flow → Sta → Prop
  | .next, s => Q (.non, false) s.h
  | .ret d o, s => Q (d, o) s.h
  | _, _ => False
@[simp] theorem retQ_next {Q : D × Bool → CH → Prop} {s : Sta} : retQ Q .next s = Q (.non, false) s.h := rfl
@[simp] theorem retQ_ret {Q : D × Bool → CH → Prop} {s : Sta} {d : D} {o : Bool} : retQ Q (.ret d o) s = Q (d, o) s.h := rfl
theorem WP_def {np n : Nat} {b : Ss} {args : List D} {h : CH} {Q : D × Bool → CH → Prop} (hl : args.length = np) (w : WP (execs b ⟨args.map (fun d => some (d, false)) ++ List.replicate (n - np) none, h⟩) (retQ Q)) : WP (fnOf np n b args h) Q := by
  unfold fnOf
  rw [if_pos hl]
  cases e : execs b ⟨args.map (fun d => some (d, false)) ++ List.replicate (n - np) none, h⟩ with
  | ok f s =>
    rw [e] at w
    cases f with
    | next => exact w
    | ret d o => exact w
    | brk => exact w.elim
    | cnt => exact w.elim
  | exc x s => rw [e] at w; exact w.elim
  | stuck => rw [e] at w; exact w.elim
/-- behind a statement, the rest at b -/
def seqQ (b : Ss) (Q : Flow → Sta → Prop) : Flow → Sta → Prop
  | .next, s => WP (execs b s) Q
  | .brk, s => Q .brk s
  | .cnt, s => Q .cnt s
  | .ret d o, s => Q (.ret d o) s
section
variable {Q : Flow → Sta → Prop} {s : Sta} {b b2 : Ss}
@[simp] theorem seqQ_next : seqQ b Q .next s = WP (execs b s) Q := rfl
@[simp] theorem seqQ_ret {d : D} {o : Bool} : seqQ b Q (.ret d o) s = Q (.ret d o) s := rfl
@[simp] theorem seqQ_brk : seqQ b Q .brk s = Q .brk s := rfl
@[simp] theorem seqQ_cnt : seqQ b Q .cnt s = Q .cnt s := rfl
theorem WP_cons {a : S} (h : WP (exec a s) (seqQ b Q)) : WP (execs (.cons a b) s) Q := by
  refine WP_bind (o := exec a s) (WP_mono h fun f s' q => ?_)
  cases f <;> exact q
theorem WP_nil (h : Q .next s) : WP (execs .nil s) Q := h
theorem WP_asg {i : Nat} {c : C} (h : WP (ev c s) fun d s' => Q .next { s' with sl := s'.sl.set i (some d) }) : WP (exec (.asg i c) s) Q := WP_bind (o := ev c s) h
theorem WP_exp {c : C} (h : WP (ev c s) fun _ s' => Q .next s') : WP (exec (.exp c) s) Q := WP_bind (o := ev c s) h
theorem WP_ret {c : C} (hc : ∀ i, c ≠ .var i) (h : WP (ev c s) fun d s' => Q (.ret d.1 d.2) s') : WP (exec (.ret c) s) Q := by
  have e : exec (.ret c) s = (ev c s).bind fun d s => Out.ok (Flow.ret d.1 d.2) s := by
    cases c <;> first | rfl | exact absurd rfl (hc _)
  rw [e]
  exact WP_bind h
theorem WP_retv {i : Nat} {d : D} {o : Bool} (hs : s.sl[i]? = some (some (d, o))) (h : Q (.ret d o) s) : WP (exec (.ret (.var i)) s) Q := by
  show WP (match s.sl[i]? with
    | some (some (d, o)) => Out.ok (Flow.ret d o) s
    | _ => Out.stuck) Q
  rw [hs]
  exact h
theorem WP_ite {c : C} (h : WP (ev c s) fun d s' => ∃ k, d.1 = .bl k ∧ (k = true → WP (execs b s') Q) ∧ (k = false → WP (execs b2 s') Q)) : WP (exec (.ite c b b2) s) Q := by
  refine WP_bind (o := ev c s) (WP_mono h fun d s' q => ?_)
  obtain ⟨k, e, h1, h2⟩ := q
  rw [e]
  cases k with
  | true => exact h1 rfl
  | false => exact h2 rfl
theorem WP_unp {is : List Nat} {c : C} (h : WP (ev c s) fun d s' => ∃ sl, tgt s'.sl is false d.1 = some sl ∧ Q .next { s' with sl := sl }) : WP (exec (.unp is c) s) Q := by
  refine WP_bind (o := ev c s) (WP_mono h fun d s' q => ?_)
  obtain ⟨sl, e, h1⟩ := q
  rw [e]
  exact h1
theorem WP_par {is : List Nat} {cs : Cs} (h : WP (evf cs s) fun ds s' => ∃ sl, setAll s'.sl is ds = some sl ∧ Q .next { s' with sl := sl }) : WP (exec (.par is cs) s) Q := by
  refine WP_bind (o := evf cs s) (WP_mono h fun d s' q => ?_)
  obtain ⟨sl, e, h1⟩ := q
  rw [e]
  exact h1
/-- one turn of a loop -/
def turnF (tg : List Nat) (one : Bool) (b : Ss) (d : D) (s : Sta) : Out Sta Flow := match tgt s.sl tg one d with
  | some sl => execs b { s with sl := sl }
  | none => .stuck
theorem WP_turn {tg : List Nat} {one : Bool} {d : D} (h : ∃ sl, tgt s.sl tg one d = some sl ∧ WP (execs b { s with sl := sl }) Q) : WP (turnF tg one b d s) Q := by
  obtain ⟨sl, e, h⟩ := h
  unfold turnF
  rw [e]
  exact h
theorem WP_fr {tg : List Nat} {one : Bool} {it : It} (h : WP (evi it s) fun ds s' => WP (forL (turnF tg one b) ds s') Q) : WP (exec (.fr tg one it b) s) Q := WP_bind (o := evi it s) h
/-- a loop by an invariant of what is left -/
theorem WP_for {turn : D → Sta → Out Sta Flow} {ds : List D} (I : List D → Sta → Prop) (h0 : I ds s) (hs : ∀ d r s, I (d :: r) s → WP (turn d s) fun f s' => match f with
      | .next => I r s'
      | .cnt => I r s'
      | .brk => Q .next s'
      | .ret d o => Q (.ret d o) s') (hd : ∀ s, I [] s → Q .next s) : WP (forL turn ds s) Q := by
  induction ds generalizing s with
  | nil => exact hd s h0
  | cons d r ih =>
    refine WP_bind (o := turn d s) (WP_mono (hs d r s h0) fun f s' q => ?_)
    cases f with
    | next => exact ih q
    | cnt => exact ih q
    | brk => exact q
    | ret d o => exact q
/-- a loop that goes on while p holds, else tells r -/
theorem WP_forp {turn : D → Sta → Out Sta Flow} {ds : List D} (I : Sta → Prop) (p : D → Bool) (r : D) (o : Bool) (h0 : I s) (hs : ∀ d ∈ ds, ∀ s, I s → WP (turn d s) fun f s' => I s' ∧ f = if p d = true then .next else .ret r o)
    (h1 : ∀ s, I s → ds.all p = true → Q .next s) (h2 : ∀ s, I s → ds.all p = false → Q (.ret r o) s) : WP (forL turn ds s) Q := by
  induction ds generalizing s with
  | nil => exact h1 s h0 rfl
  | cons d ds ih =>
    refine WP_bind (o := turn d s) (WP_mono (hs d List.mem_cons_self s h0) fun f s' q => ?_)
    obtain ⟨q1, q2⟩ := q
    subst q2
    by_cases hp : p d = true
    · rw [if_pos hp]
      refine ih q1 (fun e he => hs e (List.mem_cons_of_mem _ he)) (fun s i a => h1 s i ?_) fun s i a => h2 s i ?_
      · rw [List.all_cons, hp, a]; rfl
      · rw [List.all_cons, hp, a]; rfl
    · rw [if_neg hp]
      exact h2 s' q1 (by rw [List.all_cons, Bool.eq_false_iff.mpr hp]; rfl)
end
section
variable {h : CH}
@[simp] theorem deref_non : derefD h .non = .non := rfl
@[simp] theorem deref_bl {b : Bool} : derefD h (.bl b) = .bl b := rfl
@[simp] theorem deref_int {i : Int} : derefD h (.int i) = .int i := rfl
@[simp] theorem deref_str {z : PySem.Str} : derefD h (.str z) = .str z := rfl
@[simp] theorem deref_tup {xs : List D} : derefD h (.tup xs) = .tup xs := rfl
@[simp] theorem deref_lst {xs : List D} : derefD h (.lst xs) = .lst xs := rfl
@[simp] theorem deref_dct {ks vs : List D} : derefD h (.dct ks vs) = .dct ks vs := rfl
@[simp] theorem deref_scr {ns : List Int} : derefD h (.scr ns) = .scr ns := rfl
theorem deref_ref {l : Nat} {xs : List D} (e : h[l]? = some (.lst xs)) : derefD h (.ref l) = .lst xs := by
  show (match h[l]? with
    | some (.lst xs) => D.lst xs
    | _ => .ref l) = _
  rw [e]
theorem ix_tup {xs : List D} {i : Nat} {d : D} (e : xs[i]? = some d) : aIx [.tup xs, .int (i : Int)] = some (d, false) := by
  have hi : i < xs.length := (List.getElem?_eq_some_iff.mp e).1
  have q : getI xs (i : Int) = some d := by
    unfold getI ixD
    rw [if_pos (Int.natCast_nonneg i), if_pos (Int.ofNat_lt.mpr hi)]
    exact e
  show (getI xs (i : Int)).map _ = _
  rw [q]
  rfl
theorem ix_lst {xs : List D} {i : Nat} {d : D} (e : xs[i]? = some d) : aIx [.lst xs, .int (i : Int)] = some (d, false) := by
  have hi : i < xs.length := (List.getElem?_eq_some_iff.mp e).1
  have q : getI xs (i : Int) = some d := by
    unfold getI ixD
    rw [if_pos (Int.natCast_nonneg i), if_pos (Int.ofNat_lt.mpr hi)]
    exact e
  show (getI xs (i : Int)).map _ = _
  rw [q]
  rfl
end
section
variable {r : Sta → Out Sta (D × Bool)} {s : Sta}
@[simp] theorem opd_var {i : Nat} : opdOf (.var i) r s = (match s.sl.val i with
  | some _ => .ok (.sl i) s
  | none => .stuck) := rfl
@[simp] theorem opd_lit {d : D} : opdOf (.lit d) r s = (r s).bind fun d s => .ok (.d d.1) s := rfl
@[simp] theorem opd_glb {x : PySem.Str} {d : D} : opdOf (.glb x d) r s = (r s).bind fun d s => .ok (.d d.1) s := rfl
@[simp] theorem opd_tup {es : Cs} : opdOf (.tup es) r s = (r s).bind fun d s => .ok (.d d.1) s := rfl
@[simp] theorem opd_lst {es : Cs} : opdOf (.lst es) r s = (r s).bind fun d s => .ok (.d d.1) s := rfl
@[simp] theorem opd_lstR {es : Cs} : opdOf (.lstR es) r s = (r s).bind fun d s => .ok (.d d.1) s := rfl
@[simp] theorem opd_share {i : Nat} : opdOf (.share i) r s = (r s).bind fun d s => .ok (.d d.1) s := rfl
@[simp] theorem opd_reprC {c : C} : opdOf (.reprC c) r s = (r s).bind fun d s => .ok (.d d.1) s := rfl
@[simp] theorem opd_emp  : opdOf .emp r s = (r s).bind fun d s => .ok (.d d.1) s := rfl
@[simp] theorem opd_dct1 {a b : C} : opdOf (.dct1 a b) r s = (r s).bind fun d s => .ok (.d d.1) s := rfl
@[simp] theorem opd_nt {a : C} : opdOf (.nt a) r s = (r s).bind fun d s => .ok (.d d.1) s := rfl
@[simp] theorem opd_and {a b : C} : opdOf (.and a b) r s = (r s).bind fun d s => .ok (.d d.1) s := rfl
@[simp] theorem opd_or {a b : C} : opdOf (.or a b) r s = (r s).bind fun d s => .ok (.d d.1) s := rfl
@[simp] theorem opd_ite {a b c : C} : opdOf (.ite a b c) r s = (r s).bind fun d s => .ok (.d d.1) s := rfl
@[simp] theorem opd_prim {p : P} {es : Cs} : opdOf (.prim p es) r s = (r s).bind fun d s => .ok (.d d.1) s := rfl
@[simp] theorem opd_slc {a : C} {es fs : Cs} : opdOf (.slc a es fs) r s = (r s).bind fun d s => .ok (.d d.1) s := rfl
@[simp] theorem opd_fn {x : PySem.Str} {F : FnD} {es : Cs} : opdOf (.fn x F es) r s = (r s).bind fun d s => .ok (.d d.1) s := rfl
@[simp] theorem opd_fnB {x : PySem.Str} {F : FnD} {es : Cs} : opdOf (.fnB x F es) r s = (r s).bind fun d s => .ok (.d d.1) s := rfl
@[simp] theorem opd_sel {fs : List (PySem.Str × FnD)} {w : C} {es : Cs} : opdOf (.sel fs w es) r s = (r s).bind fun d s => .ok (.d d.1) s := rfl
@[simp] theorem opd_chain {p q : P} {a b c : C} : opdOf (.chain p q a b c) r s = (r s).bind fun d s => .ok (.d d.1) s := rfl
@[simp] theorem opd_comp {ow : List (PySem.Str × Nat)} {tg : List Nat} {one : Bool} {it : It} {cond : Cs} {elt : C} : opdOf (.comp ow tg one it cond elt) r s = (r s).bind fun d s => .ok (.d d.1) s := rfl
@[simp] theorem opd_mut {m : MOp} {a : C} {es : Cs} : opdOf (.mut m a es) r s = (r s).bind fun d s => .ok (.d d.1) s := rfl
end
/-! ### terms -/
section
variable {Q : D × Bool → Sta → Prop} {s : Sta}
theorem WP_fn {x : PySem.Str} {F : FnD} {es : Cs} (h : WP (evs es s) fun ds s' => WP (F ds s'.h) fun a h' => Q a { s' with h := h' }) : WP (ev (.fn x F es) s) Q := by
  refine WP_bind (o := evs es s) (WP_mono h fun ds s' q => ?_)
  cases e : F ds s'.h with
  | ok a h' => rw [e] at q; exact q
  | exc x h' => rw [e] at q; exact q.elim
  | stuck => rw [e] at q; exact q.elim
theorem WP_prim {p : P} {es : Cs} (h : WP (evo es s) fun os s' => ∃ ds r, rdAll s' os = some ds ∧ p.app ds = some r ∧ Q r s') : WP (ev (.prim p es) s) Q := by
  refine WP_bind (o := evo es s) (WP_mono h fun os s' q => ?_)
  obtain ⟨ds, r, e1, e2, q⟩ := q
  rw [e1]
  show WP (match p.app ds with
    | some r => Out.ok r s'
    | none => Out.stuck) Q
  rw [e2]
  exact q
theorem WP_prim1 {p : P} {c : C} (hc : ∀ i, c ≠ .var i) (h : WP (ev c s) fun d s' => ∃ r, p.app [derefD s'.h d.1] = some r ∧ Q r s') : WP (ev (.prim p (.cons c .nil)) s) Q := by
  obtain ⟨d, s', e, r, e2, q⟩ := WP_ex h
  have eo : opdOf c (ev c) s = .ok (.d d.1) s' := by
    have z : opdOf c (ev c) s = (ev c s).bind fun d s => .ok (.d d.1) s := by
      cases c <;> first | rfl | exact absurd rfl (hc _)
    rw [z, e]
    rfl
  refine WP_prim ?_
  show WP ((opdOf c (ev c) s).bind fun o s => (evo .nil s).bind fun os s => Out.ok (o :: os) s) _
  rw [eo]
  exact ⟨_, r, rfl, e2, q⟩
theorem WP_and {a b : C} (h : WP (ev a s) fun d s' => ∃ k, d.1 = .bl k ∧ (k = true → WP (ev b s') fun e s2 => Q (e.1, false) s2) ∧ (k = false → Q (.bl false, false) s')) : WP (ev (.and a b) s) Q := by
  refine WP_bind (o := ev a s) (WP_mono h fun d s' q => ?_)
  obtain ⟨k, e, h1, h2⟩ := q
  rw [e]
  cases k with
  | true => exact WP_bind (o := ev b s') (h1 rfl)
  | false => exact h2 rfl
theorem WP_or {a b : C} (h : WP (ev a s) fun d s' => ∃ k, d.1 = .bl k ∧ (k = false → WP (ev b s') fun e s2 => Q (e.1, false) s2) ∧ (k = true → Q (.bl true, false) s')) : WP (ev (.or a b) s) Q := by
  refine WP_bind (o := ev a s) (WP_mono h fun d s' q => ?_)
  obtain ⟨k, e, h1, h2⟩ := q
  rw [e]
  cases k with
  | true => exact h2 rfl
  | false => exact WP_bind (o := ev b s') (h1 rfl)
theorem WP_nt {a : C} (h : WP (ev a s) fun d s' => ∃ k, d.1 = .bl k ∧ Q (.bl (!k), false) s') : WP (ev (.nt a) s) Q := by
  refine WP_bind (o := ev a s) (WP_mono h fun d s' q => ?_)
  obtain ⟨k, e, q⟩ := q
  rw [e]
  exact q
theorem WP_evs {c : C} {cs : Cs} {Q : List D → Sta → Prop} (h : WP (ev c s) fun d s' => WP (evs cs s') fun ds s2 => Q (d.1 :: ds) s2) : WP (evs (.cons c cs) s) Q := by
  refine WP_bind (o := ev c s) (WP_mono h fun d s' q => ?_)
  exact WP_bind (o := evs cs s') q
theorem WP_evo {c : C} {cs : Cs} {Q : List Opd → Sta → Prop} (h : WP (opdOf c (ev c) s) fun d s' => WP (evo cs s') fun ds s2 => Q (d :: ds) s2) : WP (evo (.cons c cs) s) Q := by
  refine WP_bind (o := opdOf c (ev c) s) (WP_mono h fun d s' q => ?_)
  exact WP_bind (o := evo cs s') q
theorem WP_opd {c : C} {Q : Opd → Sta → Prop} (hc : ∀ i, c ≠ .var i) (h : WP (ev c s) fun d s' => Q (.d d.1) s') : WP (opdOf c (ev c) s) Q := by
  have eo : opdOf c (ev c) s = (ev c s).bind fun d s => .ok (.d d.1) s := by
    cases c <;> first | rfl | exact absurd rfl (hc _)
  rw [eo]
  exact WP_bind h
section
variable {o sl : Slots}
@[simp] theorem unh_of {c : C} : unh (.of c) o sl = sl := rfl
@[simp] theorem unh_rng1 {c : C} : unh (.rng1 c) o sl = sl := rfl
@[simp] theorem unh_rng2 {a b : C} : unh (.rng2 a b) o sl = sl := rfl
@[simp] theorem unh_enum {c : C} : unh (.enum c) o sl = sl := rfl
@[simp] theorem unh_zip {a b : C} : unh (.zip a b) o sl = sl := rfl
@[simp] theorem unh_ofO {i : Nat} : unh (.ofO i) o sl = sl.set i ((o[i]?).getD none) := rfl
@[simp] theorem unh_enumO {i : Nat} : unh (.enumO i) o sl = sl.set i ((o[i]?).getD none) := rfl
end
/-- a while that takes at most k turns more -/
theorem WP_whl {n k : Nat} {c : C} {b : Ss} {s : Sta} {Q : Flow → Sta → Prop} (I : Nat → Sta → Prop) (hk : k < n) (h0 : I k s) (ht : ∀ k s, I k s → WP (ev c s) fun d s' => ∃ t, d.1 = .bl t ∧ (t = false → Q .next s') ∧ (t = true → ∃ j, j + 1 = k ∧ WP (execs b s') fun f s2 => f = .next ∧ I j s2)) : WP (exec (.whl n c b) s) Q := by
  show WP (whileL (fun s => (ev c s).bind fun d s => match d.1 with
    | .bl b => .ok b s
    | _ => .stuck) (fun s => execs b s) n s) Q
  induction n generalizing k s with
  | zero => exact absurd hk (Nat.not_lt_zero k)
  | succ n ih =>
    refine WP_bind (o := (ev c s).bind fun d s => match d.1 with
      | .bl b => Out.ok b s
      | _ => Out.stuck) (WP_bind (o := ev c s) (WP_mono (ht k s h0) fun d s' q => ?_))
    obtain ⟨t, e, q0, q1⟩ := q
    rw [e]
    cases t with
    | false => exact q0 rfl
    | true =>
      obtain ⟨j, ej, w⟩ := q1 rfl
      refine WP_bind (o := execs b s') (WP_mono w fun f s2 z => ?_)
      obtain ⟨rfl, i⟩ := z
      exact ih (k := j) (by omega) i
/-- a comprehension by an invariant: what is done, what is left -/
theorem WP_comp {own : List (PySem.Str × Nat)} {tg : List Nat} {one : Bool} {it : It} {cond : Cs} {elt : C} (h : WP (evi it s) fun ds s1 => (own.all fun p => !s1.sl.owns p.2) = true ∧ ∃ I : List D → List D → Sta → Prop, I [] ds { s1 with sl := wipeD s1.sl (own.map (·.2)) } ∧
      (∀ acc d r s2, I acc (d :: r) s2 → ∃ sl, tgt s2.sl tg one d = some sl ∧ WP (evc cond { s2 with sl := sl }) fun k s3 => (k = true → WP (ev elt s3) fun y s4 => I (acc ++ [y.1]) r { s4 with sl := wipeD s4.sl (own.map (·.2)) }) ∧ (k = false → I acc r { s3 with sl := wipeD s3.sl (own.map (·.2)) })) ∧
      ∀ acc s2, I acc [] s2 → Q (.lst acc, true) { s2 with sl := unh it s.sl (backD s1.sl s2.sl (own.map (·.2))) }) : WP (ev (.comp own tg one it cond elt) s) Q := by
  refine WP_bind (o := evi it s) (WP_mono h fun ds s1 q => ?_)
  obtain ⟨ho, I, i0, step, fin⟩ := q
  rw [if_pos ho]
  show WP (match (compL (cTurn (own.map (·.2)) tg one cond elt) ds [] { s1 with sl := wipeD s1.sl (own.map (·.2)) }) with
    | .ok acc s2 => Out.ok (D.lst acc, true) { s2 with sl := unh it s.sl (backD s1.sl s2.sl (own.map (·.2))) }
    | _ => Out.stuck) Q
  have go : ∀ (ds acc : List D) (s2 : Sta), I acc ds s2 → ∃ accF sF, compL (cTurn (own.map (·.2)) tg one cond elt) ds acc s2 = .ok accF sF ∧ I accF [] sF := by
    intro ds
    induction ds with
    | nil => exact fun acc s2 i => ⟨acc, s2, rfl, i⟩
    | cons d r ih =>
      intro acc s2 i
      obtain ⟨sl, e1, w⟩ := step acc d r s2 i
      obtain ⟨k, s3, e2, w1, w2⟩ := WP_ex w
      have ec : cTurn (own.map (·.2)) tg one cond elt d s2 = (evc cond { s2 with sl := sl }).bind fun k s2 => match k with
          | true => (ev elt s2).bind fun y s3 => Out.ok (some y.1) { s3 with sl := wipeD s3.sl (own.map (·.2)) }
          | false => Out.ok none { s2 with sl := wipeD s2.sl (own.map (·.2)) } := by
        unfold cTurn
        rw [e1]
        all_goals rfl
      unfold compL
      rw [ec, e2]
      cases k with
      | true =>
        obtain ⟨y, s4, e3, w3⟩ := WP_ex (w1 rfl)
        simp only [e3, Out.bind_ok]
        exact ih _ _ w3
      | false =>
        simp only [Out.bind_ok]
        exact ih _ _ (w2 rfl)
  obtain ⟨accF, sF, e, i⟩ := go ds [] _ i0
  rw [e]
  exact fin accF sF i
/-- a comprehension without a test, whose items come by f and change nothing -/
theorem WP_compf {own : List (PySem.Str × Nat)} {tg : List Nat} {one : Bool} {it : It} {elt : C} (f : D → D) (h : WP (evi it s) fun ds s1 => (own.all fun p => !s1.sl.owns p.2) = true ∧
      (∀ d ∈ ds, ∃ sl, tgt (wipeD s1.sl (own.map (·.2))) tg one d = some sl ∧ WP (ev elt { s1 with sl := sl }) fun y s4 => y.1 = f d ∧ s4.h = s1.h ∧ wipeD s4.sl (own.map (·.2)) = wipeD s1.sl (own.map (·.2))) ∧
      Q (.lst (ds.map f), true) { s1 with sl := unh it s.sl (backD s1.sl (wipeD s1.sl (own.map (·.2))) (own.map (·.2))) }) : WP (ev (.comp own tg one it .nil elt) s) Q := by
  refine WP_comp (WP_mono h fun ds s1 q => ⟨q.1, fun acc r s2 => s2 = { s1 with sl := wipeD s1.sl (own.map (·.2)) } ∧ ∃ d1, ds = d1 ++ r ∧ acc = d1.map f, ⟨rfl, [], rfl, rfl⟩, fun acc d r s2 i => ?_, fun acc s2 i => ?_⟩)
  · obtain ⟨rfl, d1, e1, e2⟩ := i
    obtain ⟨sl, e3, w⟩ := q.2.1 d (by rw [e1]; exact List.mem_append_right _ List.mem_cons_self)
    refine ⟨sl, e3, ?_⟩
    show (true = true → _) ∧ (true = false → _)
    refine ⟨fun _ => WP_mono w fun y s4 z => ⟨?_, d1 ++ [d], by rw [e1, List.append_assoc]; rfl, ?_⟩, fun z => nomatch z⟩
    · obtain ⟨_, z2, z3⟩ := z
      cases s4
      simp only at z2 z3
      rw [z2, z3]
    · rw [e2, List.map_append, z.1]; rfl
  · obtain ⟨rfl, d1, e1, e2⟩ := i
    rw [List.append_nil] at e1
    subst e1
    rw [e2]
    exact q.2.2
/-- a comprehension with a test p, whose items come by f and change nothing -/
theorem WP_compk {own : List (PySem.Str × Nat)} {tg : List Nat} {one : Bool} {it : It} {c elt : C} (p : D → Bool) (f : D → D) (h : WP (evi it s) fun ds s1 => (own.all fun p => !s1.sl.owns p.2) = true ∧
      (∀ d ∈ ds, ∃ sl, tgt (wipeD s1.sl (own.map (·.2))) tg one d = some sl ∧ WP (ev c { s1 with sl := sl }) fun k s3 => k.1 = .bl (p d) ∧ s3.h = s1.h ∧ wipeD s3.sl (own.map (·.2)) = wipeD s1.sl (own.map (·.2)) ∧
        (p d = true → WP (ev elt s3) fun y s4 => y.1 = f d ∧ s4.h = s1.h ∧ wipeD s4.sl (own.map (·.2)) = wipeD s1.sl (own.map (·.2)))) ∧
      Q (.lst ((ds.filter p).map f), true) { s1 with sl := unh it s.sl (backD s1.sl (wipeD s1.sl (own.map (·.2))) (own.map (·.2))) }) : WP (ev (.comp own tg one it (.cons c .nil) elt) s) Q := by
  refine WP_comp (WP_mono h fun ds s1 q => ⟨q.1, fun acc r s2 => s2 = { s1 with sl := wipeD s1.sl (own.map (·.2)) } ∧ ∃ d1, ds = d1 ++ r ∧ acc = (d1.filter p).map f, ⟨rfl, [], rfl, rfl⟩, fun acc d r s2 i => ?_, fun acc s2 i => ?_⟩)
  · obtain ⟨rfl, d1, e1, e2⟩ := i
    obtain ⟨sl, e3, w⟩ := q.2.1 d (by rw [e1]; exact List.mem_append_right _ List.mem_cons_self)
    refine ⟨sl, e3, WP_bind (o := ev c { s1 with sl := sl }) (WP_mono w fun k s3 z => ?_)⟩
    obtain ⟨z1, z2, z3, z4⟩ := z
    rw [z1]
    show (p d = true → _) ∧ (p d = false → _)
    refine ⟨fun hp => WP_mono (z4 hp) fun y s4 z => ⟨?_, d1 ++ [d], by rw [e1, List.append_assoc]; rfl, ?_⟩, fun hp => ⟨?_, d1 ++ [d], by rw [e1, List.append_assoc]; rfl, ?_⟩⟩
    · obtain ⟨_, y2, y3⟩ := z
      cases s4
      simp only at y2 y3
      rw [y2, y3]
    · rw [e2, List.filter_append, List.map_append, z.1]
      simp [hp]
    · cases s3
      simp only at z2 z3
      rw [z2, z3]
    · rw [e2, List.filter_append, List.map_append]
      simp [hp]
  · obtain ⟨rfl, d1, e1, e2⟩ := i
    rw [List.append_nil] at e1
    subst e1
    rw [e2]
    exact q.2.2
end
/-! ### == of lists of ints with [] -/
theorem canLay_ints : ∀ is : List Int, PySem.PyData.canLayAll0 (D.pys (is.map .int)) = true
  | [] => rfl
  | i :: is => by
    show (PySem.PyData.canLay0 (.int i) && PySem.PyData.canLayAll0 (D.pys (is.map .int))) = true
    rw [canLay_ints is]
    rfl
theorem depth_ints : ∀ is : List Int, PySem.PyData.depthAll (D.pys (is.map .int)) = 0
  | [] => rfl
  | i :: is => by
    show max (PySem.PyData.depth (.int i)) (PySem.PyData.depthAll (D.pys (is.map .int))) = 0
    rw [depth_ints is]
    rfl
theorem pures_ints (is : List Int) : D.pures (is.map .int) = true := by
  rw [D.pures_all, List.all_map, List.all_eq_true]
  intro x _
  rfl
theorem okEq_ints (is : List Int) : D.okEq (.lst (is.map .int)) = true := by
  have e1 : D.pure (.lst (is.map .int)) = true := pures_ints is
  have e2 : PySem.SeqAt.shaped (.list (D.pys (is.map .int))) = true := by
    unfold PySem.SeqAt.shaped
    have c : PySem.PyData.canLay0 (.list (D.pys (is.map .int))) = true := canLay_ints is
    have d : PySem.PyData.depth (.list (D.pys (is.map .int))) = 1 := by
      show PySem.PyData.depthAll (D.pys (is.map .int)) + 1 = 1
      rw [depth_ints]
    rw [c, d]
    rfl
  show (D.pure (.lst (is.map .int)) && PySem.SeqAt.shaped (.list (D.pys (is.map .int)))) = true
  rw [e1, e2]
  rfl
theorem eqD_nil (is : List Int) : eqD (.lst (is.map .int)) (.lst []) = some is.isEmpty := by
  have e : eqD (.lst (is.map .int)) (.lst []) = (if (D.okEq (.lst (is.map .int)) && D.okEq (.lst [])) = true then some (PySem.PyData.eqv (D.py (.lst (is.map .int))) (D.py (.lst []))) else none) := rfl
  rw [e, okEq_ints]
  have e2 : D.okEq (.lst []) = true := okEq_ints []
  rw [e2]
  cases is with
  | nil => rfl
  | cons i is => rfl
end Dd

/-! Dd31: how long a thing's repr may be. -/
namespace Dd
open PySem PyProof.Rows
abbrev T31 : Nat := 10000000000000000000000000000000
mutual
def wt : D → Nat
  | .non => 4
  | .bl _ => 5
  | .int i => 32 + i.natAbs / T31
  | .str z => (reprText z).length
  | .tup xs => 3 + wts xs
  | .lst xs => 3 + wts xs
  | .dct ks vs => 3 + (wts ks + wts vs)
  | .ref _ => 0
  | .scr _ => 0
def wts : List D → Nat
  | [] => 0
  | x :: xs => wt x + 2 + wts xs
end
theorem wts_app : ∀ a b : List D, wts (a ++ b) = wts a + wts b
  | [], b => by show wts b = 0 + wts b; omega
  | x :: a, b => by
    show wt x + 2 + wts (a ++ b) = wt x + 2 + wts a + wts b
    rw [wts_app a b]
    omega
theorem wts_len : ∀ a : List D, 2 * a.length ≤ wts a
  | [] => Nat.le_refl _
  | x :: a => by
    have := wts_len a
    show 2 * (a.length + 1) ≤ wt x + 2 + wts a
    omega
theorem wts_mem : ∀ {a : List D} {x : D}, x ∈ a → wt x + 2 ≤ wts a
  | y :: a, x, h => by
    show wt x + 2 ≤ wt y + 2 + wts a
    rcases List.mem_cons.mp h with e | h
    · rw [e]; omega
    · have := wts_mem h; omega
theorem wts_take (a : List D) (k : Nat) : wts (a.take k) + wts (a.drop k) = wts a := by
  rw [← wts_app, List.take_append_drop]
theorem wts_sub {a b : List D} (h : a.Sublist b) : wts a ≤ wts b := by
  induction h with
  | slnil => exact Nat.le_refl _
  | cons x h ih => show _ ≤ wt x + 2 + _; omega
  | cons_cons x h ih => show wt x + 2 + _ ≤ wt x + 2 + _; omega
theorem wts_cut (a : List D) (lo hi : Option Int) : wts (cutD a lo hi) ≤ wts a := by
  unfold cutD
  exact wts_sub ((List.take_sublist _ _).trans (List.drop_sublist _ _))
theorem wts_all {a : List D} {w : Nat} (h : ∀ x ∈ a, wt x ≤ w) : wts a ≤ (w + 2) * a.length := by
  induction a with
  | nil => exact Nat.zero_le _
  | cons x a ih =>
    have h1 := h x List.mem_cons_self
    have h2 := ih fun y hy => h y (List.mem_cons_of_mem _ hy)
    show wt x + 2 + wts a ≤ (w + 2) * (a.length + 1)
    rw [Nat.mul_add, Nat.mul_one]
    omega
/-! ### the text of an int -/
theorem pow_big : ∀ m : Nat, m + 1 ≤ 10 ^ m
  | 0 => Nat.le_refl _
  | m + 1 => by
    have := pow_big m
    rw [Nat.pow_succ]
    omega
theorem int_text (i : Int) : (Str.ofString (toString i)).length ≤ 32 + i.natAbs / T31 := by
  have key : ∀ n : Nat, (Nat.toDigits 10 n).length ≤ 31 + n / T31 := fun n => by
    refine digits10_le (Nat.le_trans (show 1 ≤ 31 by decide) (Nat.le_add_right _ _)) ?_
    have h1 := pow_big (n / T31)
    have h2 : n < T31 * (n / T31 + 1) := Nat.lt_mul_div_succ n (by decide)
    have h3 : T31 * (n / T31 + 1) ≤ T31 * 10 ^ (n / T31) := Nat.mul_le_mul_left _ h1
    have h4 : (10 : Nat) ^ (31 + n / T31) = T31 * 10 ^ (n / T31) := by
      rw [Nat.pow_add]
    rw [h4]
    exact Nat.lt_of_lt_of_le h2 h3
  have cz : ∀ m : Nat, (Str.ofString (Nat.repr m)).length = (Nat.toDigits 10 m).length := fun m => by
    have e := text_ofNat m
    have e2 : Str.ofString (toString (Int.ofNat m)) = Str.ofString (Nat.repr m) := rfl
    rw [← e2, e]
    show (List.map Char.toNat (Nat.toDigits 10 m)).toArray.size = _
    rw [List.size_toArray, List.length_map]
  cases i with
  | ofNat m =>
    have e2 : Str.ofString (toString (Int.ofNat m)) = Str.ofString (Nat.repr m) := rfl
    rw [e2, cz]
    have := key m
    show _ ≤ 32 + m / T31
    generalize m / T31 = q at this
    omega
  | negSucc m =>
    have e2 : Str.ofString (toString (Int.negSucc m)) = Str.ofString ("-" ++ Nat.repr (m + 1)) := rfl
    have e3 : (Str.ofString ("-" ++ Nat.repr (m + 1))).length = 1 + (Str.ofString (Nat.repr (m + 1))).length := by
      rw [Str.ofString_eq_toList, Str.ofString_eq_toList]
      show (List.map Char.toNat ("-" ++ Nat.repr (m + 1)).toList).toArray.size = 1 + (List.map Char.toNat (Nat.repr (m + 1)).toList).toArray.size
      rw [List.size_toArray, List.size_toArray, List.length_map, List.length_map, String.toList_append, List.length_append]
      rfl
    rw [e2, e3, cz]
    have := key (m + 1)
    show _ ≤ 32 + (m + 1) / T31
    generalize (m + 1) / T31 = q at this
    omega
/-! ### the text of a thing -/
theorem text_len : ∀ (ts : List Str) (k : Nat) (acc : Str), (textFrom k acc ts).length ≤ acc.length + piled ts
  | [], k, acc => Nat.le_add_right _ _
  | t :: r, k, acc => by
    have ih := text_len r (k + 1) (acc ++ (if k > 0 then ", " else "" : String) ++ t)
    have e : (acc ++ (if k > 0 then ", " else "" : String) ++ t).length ≤ acc.length + 2 + t.length := by
      rw [strLen_append, strLen_append]
      have : ((if k > 0 then ", " else "" : String) : Str).length ≤ 2 := by split <;> decide
      omega
    rw [piled_cons]
    show (textFrom (k + 1) (acc ++ (if k > 0 then ", " else "" : String) ++ t) r).length ≤ _
    omega
theorem list_len (ts : List Str) : (listText ts).length ≤ piled ts + 2 := by
  unfold listText
  rw [strLen_append]
  have h := text_len ts 0 "["
  have e1 : (("[" : String) : Str).length = 1 := rfl
  have e2 : (("]" : String) : Str).length = 1 := rfl
  rw [e1] at h
  rw [e2]
  omega
theorem tup_len (ts : List Str) : (tupleText ts).length ≤ piled ts + 3 := by
  unfold tupleText
  rw [strLen_append, strLen_append]
  have e1 : (("(" : String) : Str).length = 1 := rfl
  have e3 : (((if ts.length == 1 then ",)" else ")" : String) : Str)).length ≤ 2 := by split <;> decide
  rw [e1]
  by_cases h : ts = []
  · subst h
    have : (Str.join ", " ([] : List Str)).length = 0 := rfl
    omega
  · have := join_length_add ts h
    omega
theorem dict_len (ts : List Str) : (dictText ts).length ≤ piled ts + 3 := by
  unfold dictText
  rw [strLen_append, strLen_append]
  have e1 : (("{" : String) : Str).length = 1 := rfl
  have e3 : (("}" : String) : Str).length = 1 := rfl
  rw [e1, e3]
  by_cases h : ts = []
  · subst h
    have : (Str.join ", " ([] : List Str)).length = 0 := rfl
    omega
  · have := join_length_add ts h
    omega
theorem piled_le {xs : List D} (h : ∀ x ∈ xs, x.py.shown.length ≤ wt x) : piled (PyData.shownAll (D.pys xs)) ≤ wts xs := by
  induction xs with
  | nil => exact Nat.le_refl _
  | cons x xs ih =>
    have h1 := h x List.mem_cons_self
    have h2 := ih fun y hy => h y (List.mem_cons_of_mem _ hy)
    show piled (PyData.shown x.py :: PyData.shownAll (D.pys xs)) ≤ wt x + 2 + wts xs
    rw [piled_cons]
    omega
theorem piledk_le : ∀ {ks vs : List D}, (∀ x ∈ ks, x.py.shown.length ≤ wt x) → (∀ x ∈ vs, x.py.shown.length ≤ wt x) → piled (PyData.shownKv ((D.pys ks).zip (D.pys vs))) ≤ wts ks + wts vs
  | [], _, _, _ => Nat.zero_le _
  | k :: ks, [], _, _ => Nat.zero_le _
  | k :: ks, v :: vs, p, q => by
    have h1 := p k List.mem_cons_self
    have h2 := q v List.mem_cons_self
    have h3 := piledk_le (ks := ks) (vs := vs) (fun y hy => p y (List.mem_cons_of_mem _ hy)) fun y hy => q y (List.mem_cons_of_mem _ hy)
    show piled ((PyData.shown k.py ++ ": " ++ PyData.shown v.py) :: PyData.shownKv ((D.pys ks).zip (D.pys vs))) ≤ wt k + 2 + wts ks + (wt v + 2 + wts vs)
    rw [piled_cons, strLen_append, strLen_append]
    have e1 : ((": " : String) : Str).length = 2 := rfl
    rw [e1]
    omega
mutual
theorem shown_le : ∀ d : D, d.pure = true → d.py.shown.length ≤ wt d
  | .non, _ => by show (Str.ofString "None").length ≤ 4; decide
  | .bl b, _ => by cases b <;> (show _ ≤ 5; decide)
  | .int i, _ => int_text i
  | .str z, _ => Nat.le_refl _
  | .tup xs, p => by
    have h := piled_le (showns_le xs (by simpa only [D.pure] using p))
    have := tup_len (PyData.shownAll (D.pys xs))
    show (tupleText (PyData.shownAll (D.pys xs))).length ≤ 3 + wts xs
    omega
  | .lst xs, p => by
    have h := piled_le (showns_le xs (by simpa only [D.pure] using p))
    have := list_len (PyData.shownAll (D.pys xs))
    show (listText (PyData.shownAll (D.pys xs))).length ≤ 3 + wts xs
    omega
  | .dct ks vs, p => by
    have p : (D.pures ks && D.pures vs && (ks.length == vs.length)) = true := p
    rw [Bool.and_eq_true, Bool.and_eq_true] at p
    have h := piledk_le (showns_le ks p.1.1) (showns_le vs p.1.2)
    have := dict_len (PyData.shownKv ((D.pys ks).zip (D.pys vs)))
    show (dictText (PyData.shownKv ((D.pys ks).zip (D.pys vs)))).length ≤ 3 + (wts ks + wts vs)
    omega
  | .ref _, p => by simp [D.pure] at p
  | .scr _, p => by simp [D.pure] at p
theorem showns_le : ∀ xs : List D, D.pures xs = true → ∀ x ∈ xs, x.py.shown.length ≤ wt x
  | [], _ => fun _ z => nomatch z
  | x :: xs, p => by
    simp only [D.pures, Bool.and_eq_true] at p
    have h1 := shown_le x p.1
    have h2 := showns_le xs p.2
    intro y hy
    rcases List.mem_cons.mp hy with e | hy
    · rw [e]; exact h1
    · exact h2 y hy
end
abbrev W40 : Nat := 1000000000
theorem sh_all {xs : List D} (h : ∀ x ∈ xs, x.py.showable = true) : PyData.showableAll (D.pys xs) = true := by
  induction xs with
  | nil => rfl
  | cons x xs ih =>
    show (PyData.showable x.py && PyData.showableAll (D.pys xs)) = true
    rw [h x List.mem_cons_self, ih fun y hy => h y (List.mem_cons_of_mem _ hy)]
    rfl
theorem sh_kv : ∀ {ks vs : List D}, (∀ x ∈ ks, x.py.showable = true) → (∀ x ∈ vs, x.py.showable = true) → PyData.showableKv ((D.pys ks).zip (D.pys vs)) = true
  | [], _, _, _ => rfl
  | k :: ks, [], _, _ => rfl
  | k :: ks, v :: vs, p, q => by
    show (PyData.showable k.py && PyData.showable v.py && PyData.showableKv ((D.pys ks).zip (D.pys vs))) = true
    rw [p k List.mem_cons_self, q v List.mem_cons_self, sh_kv (ks := ks) (vs := vs) (fun y hy => p y (List.mem_cons_of_mem _ hy)) fun y hy => q y (List.mem_cons_of_mem _ hy)]
    rfl
theorem big_ok {n : Nat} (h : 32 + n / T31 ≤ W40) : n.log2 < 1920 := by
  by_cases z : n = 0
  · rw [z]; decide
  · refine Nat.lt_of_lt_of_le ((Nat.log2_lt z (k := 200)).mpr ?_) (by decide)
    have h2 : n < T31 * (n / T31 + 1) := Nat.lt_mul_div_succ n (by decide)
    have e3 : T31 * (n / T31 + 1) ≤ T31 * W40 := Nat.mul_le_mul_left _ (by
      generalize n / T31 = q at h
      omega)
    have e4 : T31 * W40 ≤ 2 ^ 200 := by decide
    exact Nat.lt_of_lt_of_le h2 (Nat.le_trans e3 e4)
mutual
theorem show_ok : ∀ d : D, d.pure = true → wt d ≤ W40 → d.py.showable = true
  | .non, _, _ => rfl
  | .bl b, _, _ => rfl
  | .int i, _, h => decide_eq_true (big_ok h)
  | .str z, _, _ => rfl
  | .tup xs, p, h => by
    have h : 3 + wts xs ≤ W40 := h
    exact sh_all (shows_ok xs (by simpa only [D.pure] using p) (by omega))
  | .lst xs, p, h => by
    have h : 3 + wts xs ≤ W40 := h
    exact sh_all (shows_ok xs (by simpa only [D.pure] using p) (by omega))
  | .dct ks vs, p, h => by
    have h : 3 + (wts ks + wts vs) ≤ W40 := h
    have p : (D.pures ks && D.pures vs && (ks.length == vs.length)) = true := p
    rw [Bool.and_eq_true, Bool.and_eq_true] at p
    exact sh_kv (shows_ok ks p.1.1 (by omega)) (shows_ok vs p.1.2 (by omega))
  | .ref _, p, _ => by simp [D.pure] at p
  | .scr _, p, _ => by simp [D.pure] at p
theorem shows_ok : ∀ xs : List D, D.pures xs = true → wts xs ≤ W40 → ∀ x ∈ xs, x.py.showable = true
  | [], _, _ => fun _ z => nomatch z
  | x :: xs, p, h => by
    simp only [D.pures, Bool.and_eq_true] at p
    have h : wt x + 2 + wts xs ≤ W40 := h
    have h1 := show_ok x p.1 (by omega)
    have h2 := shows_ok xs p.2 (by omega)
    intro y hy
    rcases List.mem_cons.mp hy with e | hy
    · rw [e]; exact h1
    · exact h2 y hy
end
/-- a thing of depth k, whose repr has at most w signs -/
def gs (k w : Nat) (d : D) : Prop := d.pure = true ∧ d.py.depth ≤ k ∧ wt d ≤ w
theorem gs.mono {k k' w w' : Nat} {d : D} (h : gs k w d) (hk : k ≤ k') (hw : w ≤ w') : gs k' w' d := ⟨h.1, Nat.le_trans h.2.1 hk, Nat.le_trans h.2.2 hw⟩
theorem gs.repr {k w : Nat} {d : D} (h : gs k w d) (hk : k ≤ 64) (hw : w ≤ 16000000) : ∃ z, aRepr [d] = some (.str z, false) := by
  obtain ⟨h1, h2, h3⟩ := h
  refine ⟨d.py.shown, ?_⟩
  show (if (d.pure && decide (d.py.depth ≤ 64) && d.py.showable && decide (d.py.shown.length ≤ SZ)) = true then some (D.str d.py.shown, false) else none) = _
  have e1 := shown_le d h1
  have e2 := show_ok d h1 (by show wt d ≤ 1000000000; omega)
  have e3 : decide (d.py.depth ≤ 64) = true := decide_eq_true (by omega)
  have e4 : decide (d.py.shown.length ≤ SZ) = true := decide_eq_true (by show _ ≤ 16777216; omega)
  rw [h1, e2, e3, e4]
  rfl
theorem depths_le {xs : List D} {k : Nat} (h : ∀ x ∈ xs, x.py.depth ≤ k) : PyData.depthAll (D.pys xs) ≤ k := by
  induction xs with
  | nil => exact Nat.zero_le _
  | cons x xs ih =>
    have h1 := h x List.mem_cons_self
    have h2 := ih fun y hy => h y (List.mem_cons_of_mem _ hy)
    show max x.py.depth (PyData.depthAll (D.pys xs)) ≤ k
    omega
theorem le_depths {xs : List D} {x : D} (h : x ∈ xs) : x.py.depth ≤ PyData.depthAll (D.pys xs) := by
  induction xs with
  | nil => cases h
  | cons y xs ih =>
    show x.py.depth ≤ max y.py.depth (PyData.depthAll (D.pys xs))
    rcases List.mem_cons.mp h with e | h
    · rw [e]; omega
    · have := ih h
      omega
theorem gs_tup {k w : Nat} {xs : List D} (h : ∀ x ∈ xs, x.pure = true ∧ x.py.depth ≤ k) (hw : 3 + wts xs ≤ w) : gs (k + 1) w (.tup xs) := by
  refine ⟨?_, ?_, hw⟩
  · show D.pures xs = true
    rw [D.pures_all, List.all_eq_true]
    exact fun x hx => (h x hx).1
  · show PyData.depthAll (D.pys xs) + 1 ≤ k + 1
    have := depths_le fun x hx => (h x hx).2
    omega
theorem gs_lst {k w : Nat} {xs : List D} (h : ∀ x ∈ xs, x.pure = true ∧ x.py.depth ≤ k) (hw : 3 + wts xs ≤ w) : gs (k + 1) w (.lst xs) := gs_tup h hw
theorem gs_of {k w : Nat} {xs : List D} (h : gs k w (.tup xs)) : 1 ≤ k ∧ 3 + wts xs ≤ w ∧ ∀ x ∈ xs, x.pure = true ∧ x.py.depth ≤ k - 1 := by
  have h2 : PyData.depthAll (D.pys xs) + 1 ≤ k := h.2.1
  refine ⟨by omega, h.2.2, fun x hx => ⟨?_, ?_⟩⟩
  · have p : D.pures xs = true := h.1
    rw [D.pures_all] at p
    exact List.all_eq_true.mp p x hx
  · have := le_depths hx
    omega
end Dd

namespace LW
open Dd L2 PyProof.Rows PySem.Spec PySem
def XS : List Str := ["NoMeadow"]
def T_law_word : WordT := ⟨"_law_e", "_law_some", "_law_words", ["NoMeadow", "NoSky", "NoLandings", "NoOrder"], ["NoLot", "NoText", "NoName", "NoGlider"], ["NoMinute", "NoAim", "TooMany", "Bound"], ["NoDeed", "NoRow", "NoWay"], ["meadow", "sky", "landings", "order", "lot", "text", "name", "glider", "minute", "aim", "many", "bound"], ["deed", "row", "way"]⟩
def YS : List Str := ["NoMeadow", "NoSky", "NoLandings", "NoOrder", "NoLot", "NoText", "NoName", "NoGlider", "NoMinute", "NoAim", "TooMany", "Bound", "NoDeed", "NoRow", "NoWay"]
def WDS_law_word : List (Str × Str) := [("NoMeadow", "meadow")]
def N_law_pot : List Str := ["_law_cell", "_law_number", "_law_j", "_law_more"]
def l_law_pot_0 : Ss := (.cons (.asg 3 (.prim .mod (.cons (.prim .mul (.cons (.prim .add (.cons (.prim .add (.cons (.prim .mod (.cons (.var 0) (.cons (.lit (.int 2147483629)) .nil))) (.cons (.prim .mul (.cons (.lit (.int 7919)) (.cons (.var 2) .nil))) .nil))) (.cons (.lit (.int 1)) .nil))) (.cons (.lit (.int 48271)) .nil))) (.cons (.lit (.int 2147483647)) .nil))))
  (.cons (.asg 3 (.prim .mod (.cons (.prim .add (.cons (.prim .add (.cons (.prim .mul (.cons (.var 3) (.cons (.var 3) .nil))) (.cons (.prim .mul (.cons (.lit (.int 69621)) (.cons (.var 2) .nil))) .nil))) (.cons (.lit (.int 7)) .nil))) (.cons (.lit (.int 2147483587)) .nil))))
  (.cons (.asg 1 (.prim .add (.cons (.prim .mul (.cons (.var 1) (.cons (.lit (.int 2147483587)) .nil))) (.cons (.var 3) .nil))))
  .nil)))
def b_law_pot : Ss := (.cons (.ite (.prim .ge (.cons (.var 0) (.cons (.prim .pow (.cons (.lit (.int 10)) (.cons (.lit (.int 18)) .nil))) .nil)))
  (.cons (.ret (.lstR (.cons (.prim .sub (.cons (.var 0) (.cons (.prim .pow (.cons (.lit (.int 10)) (.cons (.lit (.int 18)) .nil))) .nil))) .nil)))
  .nil)
  .nil)
  (.cons (.asg 1 (.lit (.int 0)))
  (.cons (.fr [2] true (.rng1 (.lit (.int 64))) l_law_pot_0)
  (.cons (.ret (.lstR (.cons (.var 1) .nil)))
  .nil))))
def F_law_pot : FnD := fnOf 1 4 b_law_pot
def N_law_take : List Str := ["_law_pot_here", "_law_far", "_law_found"]
def b_law_take : Ss := (.cons (.asg 2 (.prim .mod (.cons (.prim .ix (.cons (.var 0) (.cons (.lit (.int 0)) .nil))) (.cons (.var 1) .nil))))
  (.cons (.setix (.var 0) (.lit (.int 0)) (.prim .fdiv (.cons (.prim .ix (.cons (.var 0) (.cons (.lit (.int 0)) .nil))) (.cons (.var 1) .nil))))
  (.cons (.ret (.var 2))
  .nil)))
def F_law_take : FnD := fnOf 2 3 b_law_take
def N_law_gaps : List Str := ["_law_pot_here", "_law_many", "_law_rows", "_law_c", "_law_a", "_law_b", "_law_row", "_law_gap"]
def k_law_gaps_0 : C := .comp [("_law_row", 6)] [6] true (.of (.var 2)) .nil (.prim .tuple (.cons (.var 6) .nil))
@[simp] theorem o_k_law_gaps_0 {s : Sta} : opdOf k_law_gaps_0 (ev k_law_gaps_0) s = (ev k_law_gaps_0 s).bind fun d s => .ok (.d d.1) s := rfl
def k_law_gaps_1 : C := .comp [("_law_b", 5), ("_law_gap", 7)] [5, 7] false (.enum (.var 6)) .nil (.prim .min2 (.cons (.var 7) (.cons (.prim .add (.cons (.prim .ix (.cons (.var 6) (.cons (.var 3) .nil))) (.cons (.prim .ix (.cons (.prim .ix (.cons (.var 2) (.cons (.var 3) .nil))) (.cons (.var 5) .nil))) .nil))) .nil)))
@[simp] theorem o_k_law_gaps_1 {s : Sta} : opdOf k_law_gaps_1 (ev k_law_gaps_1) s = (ev k_law_gaps_1 s).bind fun d s => .ok (.d d.1) s := rfl
def k_law_gaps_2 : C := .comp [("_law_row", 6)] [6] true (.of (.var 2)) .nil k_law_gaps_1
@[simp] theorem o_k_law_gaps_2 {s : Sta} : opdOf k_law_gaps_2 (ev k_law_gaps_2) s = (ev k_law_gaps_2 s).bind fun d s => .ok (.d d.1) s := rfl
def l_law_gaps_0 : Ss := (.cons (.asg 2 k_law_gaps_2)
  .nil)
def k_law_gaps_3 : C := .comp [("_law_gap", 7)] [7] true (.of (.var 6)) .nil (.prim .sub (.cons (.lit (.int 99)) (.cons (.fn "_law_take" F_law_take (.cons (.var 0) (.cons (.lit (.int 3)) .nil))) .nil)))
@[simp] theorem o_k_law_gaps_3 {s : Sta} : opdOf k_law_gaps_3 (ev k_law_gaps_3) s = (ev k_law_gaps_3 s).bind fun d s => .ok (.d d.1) s := rfl
def k_law_gaps_4 : C := .comp [("_law_row", 6)] [6] true (.of (.var 2)) .nil k_law_gaps_3
@[simp] theorem o_k_law_gaps_4 {s : Sta} : opdOf k_law_gaps_4 (ev k_law_gaps_4) s = (ev k_law_gaps_4 s).bind fun d s => .ok (.d d.1) s := rfl
def k_law_gaps_5 : C := .comp [("_law_b", 5)] [5] true (.rng1 (.var 1)) .nil (.prim .add (.cons (.lit (.int 1)) (.cons (.fn "_law_take" F_law_take (.cons (.var 0) (.cons (.lit (.int 9)) .nil))) .nil)))
@[simp] theorem o_k_law_gaps_5 {s : Sta} : opdOf k_law_gaps_5 (ev k_law_gaps_5) s = (ev k_law_gaps_5 s).bind fun d s => .ok (.d d.1) s := rfl
def k_law_gaps_6 : C := .comp [("_law_a", 4)] [4] true (.rng1 (.var 1)) .nil k_law_gaps_5
@[simp] theorem o_k_law_gaps_6 {s : Sta} : opdOf k_law_gaps_6 (ev k_law_gaps_6) s = (ev k_law_gaps_6 s).bind fun d s => .ok (.d d.1) s := rfl
def b_law_gaps : Ss := (.cons (.asg 1 (.prim .add (.cons (.lit (.int 1)) (.cons (.fn "_law_take" F_law_take (.cons (.var 0) (.cons (.lit (.int 4)) .nil))) .nil))))
  (.cons (.asg 2 k_law_gaps_6)
  (.cons (.ite (.prim .eq (.cons (.fn "_law_take" F_law_take (.cons (.var 0) (.cons (.lit (.int 8)) .nil))) (.cons (.lit (.int 0)) .nil)))
  (.cons (.asg 2 k_law_gaps_4)
  .nil)
  .nil)
  (.cons (.fr [3] true (.rng1 (.var 1)) l_law_gaps_0)
  (.cons (.ret (.prim .tuple (.cons k_law_gaps_0 .nil)))
  .nil)))))
def F_law_gaps : FnD := fnOf 1 8 b_law_gaps
def N_law_shuts : List Str := ["_law_pot_here", "_law_now", "_law_turn", "_law_found", "_law_begin"]
def l_law_shuts_0 : Ss := (.cons (.asg 4 (.prim .add (.cons (.prim .add (.cons (.var 4) (.cons (.lit (.int 1)) .nil))) (.cons (.fn "_law_take" F_law_take (.cons (.var 0) (.cons (.lit (.int 14)) .nil))) .nil))))
  (.cons (.exp (.mut .append (.var 3) (.cons (.tup (.cons (.var 4) (.cons (.prim .add (.cons (.prim .add (.cons (.var 4) (.cons (.lit (.int 1)) .nil))) (.cons (.fn "_law_take" F_law_take (.cons (.var 0) (.cons (.lit (.int 6)) .nil))) .nil))) .nil))) .nil)))
  (.cons (.asg 4 (.prim .ix (.cons (.prim .ix (.cons (.var 3) (.cons (.prim .neg (.cons (.lit (.int 1)) .nil)) .nil))) (.cons (.lit (.int 1)) .nil))))
  .nil)))
def b_law_shuts : Ss := (.cons (.par [3, 4] (.cons (.lst .nil) (.cons (.var 1) .nil)))
  (.cons (.fr [2] true (.rng1 (.prim .ix (.cons (.lst (.cons (.lit (.int 0)) (.cons (.lit (.int 1)) (.cons (.lit (.int 2)) (.cons (.lit (.int 3)) (.cons (.lit (.int 4)) .nil)))))) (.cons (.fn "_law_take" F_law_take (.cons (.var 0) (.cons (.lit (.int 5)) .nil))) .nil)))) l_law_shuts_0)
  (.cons (.ret (.prim .tuple (.cons (.var 3) .nil)))
  .nil)))
def F_law_shuts : FnD := fnOf 2 5 b_law_shuts
def N_law_meadow : List Str := ["_law_pot_here", "_law_rings"]
def b_law_meadow : Ss := (.cons (.asg 1 (.prim .ix (.cons (.lst (.cons (.lit (.int 2)) (.cons (.lit (.int 1)) (.cons (.lit (.int 3)) (.cons (.lit (.int 8)) (.cons (.lit (.int 0)) .nil)))))) (.cons (.fn "_law_take" F_law_take (.cons (.var 0) (.cons (.lit (.int 5)) .nil))) .nil))))
  (.cons (.ret (.tup (.cons (.var 1) (.cons (.prim .ix (.cons (.lst (.cons (.lit (.int 2)) (.cons (.lit (.int 0)) (.cons (.lit (.int 1)) (.cons (.lit (.int 5)) (.cons (.lit (.int 60)) .nil)))))) (.cons (.fn "_law_take" F_law_take (.cons (.var 0) (.cons (.lit (.int 5)) .nil))) .nil))) (.cons (.fn "_law_gaps" F_law_gaps (.cons (.var 0) .nil)) (.cons (.fn "_law_shuts" F_law_shuts (.cons (.var 0) (.cons (.lit (.int 0)) .nil))) .nil))))))
  .nil))
def F_law_meadow : FnD := fnOf 1 2 b_law_meadow
def N_law_cell_at : List Str := ["_law_script", "_law_k"]
def b_law_cell_at : Ss := (.cons (.ite (.prim .lt (.cons (.var 1) (.cons (.prim .len (.cons (.var 0) .nil)) .nil)))
  (.cons (.ret (.prim .ix (.cons (.var 0) (.cons (.var 1) .nil))))
  .nil)
  .nil)
  (.cons (.ret (.lit (.int 0)))
  .nil))
def F_law_cell_at : FnD := fnOf 2 2 b_law_cell_at
def N_law_odd : List Str := ["_law_pot_here", "_law_some"]
def b_law_odd : Ss := (.cons (.asg 1 (.lst (.cons (.lit .non) (.cons (.lit (.bl true)) (.cons (.lit (.bl false)) (.cons (.prim .neg (.cons (.lit (.int 1)) .nil)) (.cons (.prim .pow (.cons (.lit (.int 10)) (.cons (.lit (.int 30)) .nil))) (.cons (.lit (.str "")) (.cons (.lit (.str "a")) (.cons (.lit (.str "1")) (.cons (.tup .nil) (.cons (.lst .nil) (.cons .emp (.cons (.lst (.cons (.tup .nil) .nil)) (.cons (.tup (.cons (.tup .nil) .nil)) (.cons (.tup (.cons (.lit (.int 0)) .nil)) (.cons (.lst (.cons (.lit (.int 0)) .nil)) (.cons (.dct1 (.lit (.int 0)) (.lit (.int 1))) (.cons (.tup (.cons (.lit (.bl true)) (.cons (.lit (.bl true)) .nil))) .nil)))))))))))))))))))
  (.cons (.ret (.prim .ix (.cons (.var 1) (.cons (.fn "_law_take" F_law_take (.cons (.var 0) (.cons (.prim .len (.cons (.var 1) .nil)) .nil))) .nil))))
  .nil))
def F_law_odd : FnD := fnOf 1 2 b_law_odd
def N_law_whole : List Str := ["_law_thing"]
def b_law_whole : Ss := (.cons (.ret (.and (.prim (.isi .int) (.cons (.var 0) .nil)) (.nt (.prim (.isi .bool) (.cons (.var 0) .nil)))))
  .nil)
def F_law_whole : FnD := fnOf 1 1 b_law_whole
def N_law_bent : List Str := ["_law_pot_here", "_law_thing", "_law_way", "_law_at"]
def b_law_bent (self : FnD) : Ss := (.cons (.ite (.nt (.prim (.isi .tuple) (.cons (.var 1) .nil)))
  (.cons (.ite (.and (.fn "_law_whole" F_law_whole (.cons (.var 1) .nil)) (.prim .gt (.cons (.fn "_law_take" F_law_take (.cons (.var 0) (.cons (.lit (.int 3)) .nil))) (.cons (.lit (.int 0)) .nil))))
  (.cons (.ret (.prim .add (.cons (.var 1) (.cons (.prim .ix (.cons (.lst (.cons (.lit (.int 1)) (.cons (.prim .neg (.cons (.lit (.int 1)) .nil)) (.cons (.lit (.int 9)) (.cons (.lit (.int 100)) (.cons (.lit (.int 9999)) (.cons (.prim .neg (.cons (.prim .pow (.cons (.lit (.int 10)) (.cons (.lit (.int 4)) .nil))) .nil)) .nil))))))) (.cons (.fn "_law_take" F_law_take (.cons (.var 0) (.cons (.lit (.int 6)) .nil))) .nil))) .nil))))
  .nil)
  .nil)
  (.cons (.ret (.fn "_law_odd" F_law_odd (.cons (.var 0) .nil)))
  .nil))
  .nil)
  (.cons (.asg 2 (.fn "_law_take" F_law_take (.cons (.var 0) (.cons (.lit (.int 12)) .nil))))
  (.cons (.ite (.or (.prim .eq (.cons (.var 2) (.cons (.lit (.int 0)) .nil))) (.prim .eq (.cons (.var 1) (.cons (.tup .nil) .nil))))
  (.cons (.ret (.prim .ix (.cons (.lst (.cons (.fn "_law_odd" F_law_odd (.cons (.var 0) .nil)) (.cons (.prim .list (.cons (.var 1) .nil)) (.cons (.prim .add (.cons (.var 1) (.cons (.tup (.cons (.fn "_law_odd" F_law_odd (.cons (.var 0) .nil)) .nil)) .nil))) (.cons (.prim .add (.cons (.var 1) (.cons (.slc (.var 1) (.cons (.prim .neg (.cons (.lit (.int 1)) .nil)) .nil) .nil) .nil))) .nil))))) (.cons (.fn "_law_take" F_law_take (.cons (.var 0) (.cons (.lit (.int 4)) .nil))) .nil))))
  .nil)
  .nil)
  (.cons (.asg 3 (.fn "_law_take" F_law_take (.cons (.var 0) (.cons (.prim .len (.cons (.var 1) .nil)) .nil))))
  (.cons (.ite (.prim .eq (.cons (.var 2) (.cons (.lit (.int 1)) .nil)))
  (.cons (.ret (.prim .add (.cons (.slc (.var 1) .nil (.cons (.var 3) .nil)) (.cons (.slc (.var 1) (.cons (.prim .add (.cons (.var 3) (.cons (.lit (.int 1)) .nil))) .nil) .nil) .nil))))
  .nil)
  .nil)
  (.cons (.ite (.prim .eq (.cons (.var 2) (.cons (.lit (.int 2)) .nil)))
  (.cons (.ret (.prim .add (.cons (.prim .add (.cons (.slc (.var 1) .nil (.cons (.var 3) .nil)) (.cons (.slc (.var 1) (.cons (.var 3) .nil) (.cons (.prim .add (.cons (.var 3) (.cons (.lit (.int 1)) .nil))) .nil)) .nil))) (.cons (.slc (.var 1) (.cons (.var 3) .nil) .nil) .nil))))
  .nil)
  .nil)
  (.cons (.ret (.prim .add (.cons (.prim .add (.cons (.slc (.var 1) .nil (.cons (.var 3) .nil)) (.cons (.tup (.cons (.fn "_law_bent" self (.cons (.var 0) (.cons (.prim .ix (.cons (.var 1) (.cons (.var 3) .nil))) .nil))) .nil)) .nil))) (.cons (.slc (.var 1) (.cons (.prim .add (.cons (.var 3) (.cons (.lit (.int 1)) .nil))) .nil) .nil) .nil))))
  .nil)))))))
def F_law_bent : Nat → FnD
  | 0 => fun _ _ => .stuck
  | n + 1 => fnOf 2 4 (b_law_bent (F_law_bent n))
def N_law_within : List Str := ["_law_thing", "_law_low", "_law_high"]
def b_law_within : Ss := (.cons (.ret (.and (.fn "_law_whole" F_law_whole (.cons (.var 0) .nil)) (.chain .le .le (.var 1) (.var 0) (.var 2))))
  .nil)
def F_law_within : FnD := fnOf 3 3 b_law_within
def N_law_is_meadow : List Str := ["_law_thing", "_law_row", "_law_behind", "_law_one", "_law_rings", "_law_sink", "_law_gaps_here", "_law_shuts_here", "_law_c", "_law_first", "_law_gap", "_law_b", "_law_end"]
def k_law_is_meadow_0 : C := .comp [("_law_end", 12)] [12] true (.of (.var 3)) .nil (.fn "_law_within" F_law_within (.cons (.var 12) (.cons (.lit (.int 0)) (.cons (.lit (.int 9999)) .nil))))
@[simp] theorem o_k_law_is_meadow_0 {s : Sta} : opdOf k_law_is_meadow_0 (ev k_law_is_meadow_0) s = (ev k_law_is_meadow_0 s).bind fun d s => .ok (.d d.1) s := rfl
def l_law_is_meadow_0 : Ss := (.cons (.ite (.or (.nt (.prim (.isi .tuple) (.cons (.var 3) .nil))) (.or (.prim .ne (.cons (.prim .len (.cons (.var 3) .nil)) (.cons (.lit (.int 2)) .nil))) (.nt (.prim .all (.cons k_law_is_meadow_0 .nil)))))
  (.cons (.ret (.lit (.bl false)))
  .nil)
  .nil)
  (.cons (.ite (.or (.prim .ge (.cons (.prim .ix (.cons (.var 3) (.cons (.lit (.int 0)) .nil))) (.cons (.prim .ix (.cons (.var 3) (.cons (.lit (.int 1)) .nil))) .nil))) (.prim .le (.cons (.prim .ix (.cons (.var 3) (.cons (.lit (.int 0)) .nil))) (.cons (.var 2) .nil))))
  (.cons (.ret (.lit (.bl false)))
  .nil)
  .nil)
  (.cons (.asg 2 (.prim .ix (.cons (.var 3) (.cons (.lit (.int 1)) .nil))))
  .nil)))
def k_law_is_meadow_1 : C := .comp [("_law_b", 11), ("_law_gap", 10)] [11, 10] false (.enum (.var 1)) (.cons (.prim .gt (.cons (.var 10) (.cons (.prim .add (.cons (.var 9) (.cons (.prim .ix (.cons (.prim .ix (.cons (.var 6) (.cons (.var 8) .nil))) (.cons (.var 11) .nil))) .nil))) .nil))) .nil) (.var 11)
@[simp] theorem o_k_law_is_meadow_1 {s : Sta} : opdOf k_law_is_meadow_1 (ev k_law_is_meadow_1) s = (ev k_law_is_meadow_1 s).bind fun d s => .ok (.d d.1) s := rfl
def l_law_is_meadow_1 : Ss := (.cons (.ite (.prim .ne (.cons k_law_is_meadow_1 (.cons (.lst .nil) .nil)))
  (.cons (.ret (.lit (.bl false)))
  .nil)
  .nil)
  .nil)
def l_law_is_meadow_2 : Ss := (.cons (.fr [8, 9] false (.enum (.var 1)) l_law_is_meadow_1)
  .nil)
def k_law_is_meadow_2 : C := .comp [("_law_gap", 10)] [10] true (.of (.var 1)) .nil (.fn "_law_within" F_law_within (.cons (.var 10) (.cons (.lit (.int 1)) (.cons (.lit (.int 99)) .nil))))
@[simp] theorem o_k_law_is_meadow_2 {s : Sta} : opdOf k_law_is_meadow_2 (ev k_law_is_meadow_2) s = (ev k_law_is_meadow_2 s).bind fun d s => .ok (.d d.1) s := rfl
def l_law_is_meadow_3 : Ss := (.cons (.ite (.or (.nt (.prim (.isi .tuple) (.cons (.var 1) .nil))) (.or (.prim .ne (.cons (.prim .len (.cons (.var 1) .nil)) (.cons (.prim .len (.cons (.var 6) .nil)) .nil))) (.nt (.prim .all (.cons k_law_is_meadow_2 .nil)))))
  (.cons (.ret (.lit (.bl false)))
  .nil)
  .nil)
  .nil)
def b_law_is_meadow : Ss := (.cons (.ite (.or (.nt (.prim (.isi .tuple) (.cons (.var 0) .nil))) (.prim .ne (.cons (.prim .len (.cons (.var 0) .nil)) (.cons (.lit (.int 4)) .nil))))
  (.cons (.ret (.lit (.bl false)))
  .nil)
  .nil)
  (.cons (.unp [4, 5, 6, 7] (.var 0))
  (.cons (.ite (.or (.nt (.fn "_law_within" F_law_within (.cons (.var 4) (.cons (.lit (.int 0)) (.cons (.lit (.int 8)) .nil))))) (.nt (.fn "_law_within" F_law_within (.cons (.var 5) (.cons (.lit (.int 0)) (.cons (.lit (.int 60)) .nil))))))
  (.cons (.ret (.lit (.bl false)))
  .nil)
  .nil)
  (.cons (.ite (.or (.nt (.prim (.isi .tuple) (.cons (.var 6) .nil))) (.or (.nt (.chain .le .le (.lit (.int 1)) (.prim .len (.cons (.var 6) .nil)) (.lit (.int 4)))) (.or (.nt (.prim (.isi .tuple) (.cons (.var 7) .nil))) (.prim .gt (.cons (.prim .len (.cons (.var 7) .nil)) (.cons (.lit (.int 4)) .nil))))))
  (.cons (.ret (.lit (.bl false)))
  .nil)
  .nil)
  (.cons (.fr [1] true (.of (.var 6)) l_law_is_meadow_3)
  (.cons (.fr [1] true (.of (.var 6)) l_law_is_meadow_2)
  (.cons (.asg 2 (.prim .neg (.cons (.lit (.int 1)) .nil)))
  (.cons (.fr [3] true (.of (.var 7)) l_law_is_meadow_0)
  (.cons (.ret (.lit (.bl true)))
  .nil)))))))))
def F_law_is_meadow : FnD := fnOf 1 13 b_law_is_meadow
def N_are_straight : List Str := ["gaps", "row", "between", "first", "last", "gap"]
def l_are_straight_0 : Ss := (.cons (.ite (.prim .gt (.cons (.var 5) (.cons (.prim .add (.cons (.var 3) (.cons (.prim .ix (.cons (.prim .ix (.cons (.var 0) (.cons (.var 2) .nil))) (.cons (.var 4) .nil))) .nil))) .nil)))
  (.cons (.ret (.lit (.bl false)))
  .nil)
  .nil)
  .nil)
def l_are_straight_1 : Ss := (.cons (.fr [4, 5] false (.enum (.var 1)) l_are_straight_0)
  .nil)
def l_are_straight_2 : Ss := (.cons (.fr [2, 3] false (.enum (.var 1)) l_are_straight_1)
  .nil)
def b_are_straight : Ss := (.cons (.fr [1] true (.of (.var 0)) l_are_straight_2)
  (.cons (.ret (.lit (.bl true)))
  .nil))
def F_are_straight : FnD := fnOf 1 6 b_are_straight
def N_is_whole : List Str := ["thing"]
def b_is_whole : Ss := (.cons (.ret (.and (.prim (.isi .int) (.cons (.var 0) .nil)) (.nt (.prim (.isi .bool) (.cons (.var 0) .nil)))))
  .nil)
def F_is_whole : FnD := fnOf 1 1 b_is_whole
def N_is_within : List Str := ["thing", "low", "high"]
def b_is_within : Ss := (.cons (.ret (.and (.fn "is_whole" F_is_whole (.cons (.var 0) .nil)) (.chain .le .le (.var 1) (.var 0) (.var 2))))
  .nil)
def F_is_within : FnD := fnOf 3 3 b_is_within
def N_is_row : List Str := ["thing", "many", "gap"]
def k_is_row_0 : C := .comp [("gap", 2)] [2] true (.of (.var 0)) .nil (.fn "is_within" F_is_within (.cons (.var 2) (.cons (.lit (.int 1)) (.cons (.glb "MOST_GAP" (.int 99)) .nil))))
@[simp] theorem o_k_is_row_0 {s : Sta} : opdOf k_is_row_0 (ev k_is_row_0) s = (ev k_is_row_0 s).bind fun d s => .ok (.d d.1) s := rfl
def b_is_row : Ss := (.cons (.ite (.or (.nt (.prim (.isi .tuple) (.cons (.var 0) .nil))) (.prim .ne (.cons (.prim .len (.cons (.var 0) .nil)) (.cons (.var 1) .nil))))
  (.cons (.ret (.lit (.bl false)))
  .nil)
  .nil)
  (.cons (.ret (.prim .all (.cons k_is_row_0 .nil)))
  .nil))
def F_is_row : FnD := fnOf 2 3 b_is_row
def N_are_gaps : List Str := ["thing", "row"]
def k_are_gaps_0 : C := .comp [("row", 1)] [1] true (.of (.var 0)) .nil (.fn "is_row" F_is_row (.cons (.var 1) (.cons (.prim .len (.cons (.var 0) .nil)) .nil)))
@[simp] theorem o_k_are_gaps_0 {s : Sta} : opdOf k_are_gaps_0 (ev k_are_gaps_0) s = (ev k_are_gaps_0 s).bind fun d s => .ok (.d d.1) s := rfl
def b_are_gaps : Ss := (.cons (.ite (.or (.nt (.prim (.isi .tuple) (.cons (.var 0) .nil))) (.nt (.chain .le .le (.lit (.int 1)) (.prim .len (.cons (.var 0) .nil)) (.glb "MOST_KINDS" (.int 4)))))
  (.cons (.ret (.lit (.bl false)))
  .nil)
  .nil)
  (.cons (.ret (.and (.prim .all (.cons k_are_gaps_0 .nil)) (.fn "are_straight" F_are_straight (.cons (.var 0) .nil))))
  .nil))
def F_are_gaps : FnD := fnOf 1 2 b_are_gaps
def N_is_minute : List Str := ["thing"]
def b_is_minute : Ss := (.cons (.ret (.fn "is_within" F_is_within (.cons (.var 0) (.cons (.lit (.int 0)) (.cons (.glb "MOST_MINUTE" (.int 9999)) .nil)))))
  .nil)
def F_is_minute : FnD := fnOf 1 1 b_is_minute
def N_is_stretch : List Str := ["thing"]
def b_is_stretch : Ss := (.cons (.ite (.or (.nt (.prim (.isi .tuple) (.cons (.var 0) .nil))) (.or (.prim .ne (.cons (.prim .len (.cons (.var 0) .nil)) (.cons (.lit (.int 2)) .nil))) (.or (.nt (.fn "is_minute" F_is_minute (.cons (.prim .ix (.cons (.var 0) (.cons (.lit (.int 0)) .nil))) .nil))) (.nt (.fn "is_minute" F_is_minute (.cons (.prim .ix (.cons (.var 0) (.cons (.lit (.int 1)) .nil))) .nil))))))
  (.cons (.ret (.lit (.bl false)))
  .nil)
  .nil)
  (.cons (.ret (.prim .lt (.cons (.prim .ix (.cons (.var 0) (.cons (.lit (.int 0)) .nil))) (.cons (.prim .ix (.cons (.var 0) (.cons (.lit (.int 1)) .nil))) .nil))))
  .nil))
def F_is_stretch : FnD := fnOf 1 1 b_is_stretch
def N_are_shuts : List Str := ["thing", "k", "one"]
def k_are_shuts_0 : C := .comp [("k", 1)] [1] true (.rng2 (.lit (.int 1)) (.prim .len (.cons (.var 0) .nil))) .nil (.prim .gt (.cons (.prim .ix (.cons (.prim .ix (.cons (.var 0) (.cons (.var 1) .nil))) (.cons (.lit (.int 0)) .nil))) (.cons (.prim .ix (.cons (.prim .ix (.cons (.var 0) (.cons (.prim .sub (.cons (.var 1) (.cons (.lit (.int 1)) .nil))) .nil))) (.cons (.lit (.int 1)) .nil))) .nil)))
@[simp] theorem o_k_are_shuts_0 {s : Sta} : opdOf k_are_shuts_0 (ev k_are_shuts_0) s = (ev k_are_shuts_0 s).bind fun d s => .ok (.d d.1) s := rfl
def k_are_shuts_1 : C := .comp [("one", 2)] [2] true (.of (.var 0)) .nil (.fn "is_stretch" F_is_stretch (.cons (.var 2) .nil))
@[simp] theorem o_k_are_shuts_1 {s : Sta} : opdOf k_are_shuts_1 (ev k_are_shuts_1) s = (ev k_are_shuts_1 s).bind fun d s => .ok (.d d.1) s := rfl
def b_are_shuts : Ss := (.cons (.ite (.or (.nt (.prim (.isi .tuple) (.cons (.var 0) .nil))) (.or (.prim .gt (.cons (.prim .len (.cons (.var 0) .nil)) (.cons (.glb "MOST_SHUTS" (.int 4)) .nil))) (.nt (.prim .all (.cons k_are_shuts_1 .nil)))))
  (.cons (.ret (.lit (.bl false)))
  .nil)
  .nil)
  (.cons (.ret (.prim .all (.cons k_are_shuts_0 .nil)))
  .nil))
def F_are_shuts : FnD := fnOf 1 3 b_are_shuts
def N_is_meadow : List Str := ["thing"]
def b_is_meadow : Ss := (.cons (.ite (.or (.nt (.prim (.isi .tuple) (.cons (.var 0) .nil))) (.prim .ne (.cons (.prim .len (.cons (.var 0) .nil)) (.cons (.lit (.int 4)) .nil))))
  (.cons (.ret (.lit (.bl false)))
  .nil)
  .nil)
  (.cons (.ite (.or (.nt (.fn "is_within" F_is_within (.cons (.prim .ix (.cons (.var 0) (.cons (.lit (.int 0)) .nil))) (.cons (.lit (.int 0)) (.cons (.glb "MOST_RINGS" (.int 8)) .nil))))) (.nt (.fn "is_within" F_is_within (.cons (.prim .ix (.cons (.var 0) (.cons (.lit (.int 1)) .nil))) (.cons (.lit (.int 0)) (.cons (.glb "MOST_SINK" (.int 60)) .nil))))))
  (.cons (.ret (.lit (.bl false)))
  .nil)
  .nil)
  (.cons (.ret (.and (.fn "are_gaps" F_are_gaps (.cons (.prim .ix (.cons (.var 0) (.cons (.lit (.int 2)) .nil))) .nil)) (.fn "are_shuts" F_are_shuts (.cons (.prim .ix (.cons (.var 0) (.cons (.lit (.int 3)) .nil))) .nil))))
  .nil)))
def F_is_meadow : FnD := fnOf 1 1 b_is_meadow
def N_check_meadow : List Str := ["meadow"]
def b_check_meadow : Ss := (.cons (.ite (.nt (.fn "is_meadow" F_is_meadow (.cons (.var 0) .nil)))
  (.cons (.rai "NoMeadow" "no meadow")
  .nil)
  .nil)
  .nil)
def F_check_meadow : FnD := fnOf 1 1 b_check_meadow
def N_open_in : List Str := ["shuts", "minute", "found", "begin", "end"]
def l_open_in_0 : Ss := (.cons (.ite (.chain .le .lt (.var 3) (.var 2) (.var 4))
  (.cons (.asg 2 (.var 4))
  .nil)
  .nil)
  .nil)
def b_open_in : Ss := (.cons (.asg 2 (.var 1))
  (.cons (.fr [3, 4] false (.of (.var 0)) l_open_in_0)
  (.cons (.ret (.var 2))
  .nil)))
def F_open_in : FnD := fnOf 2 5 b_open_in
def N_open_from : List Str := ["meadow", "minute"]
def b_open_from : Ss := (.cons (.exp (.fn "check_meadow" F_check_meadow (.cons (.var 0) .nil)))
  (.cons (.ret (.fn "open_in" F_open_in (.cons (.prim .ix (.cons (.var 0) (.cons (.lit (.int 3)) .nil))) (.cons (.var 1) .nil))))
  .nil))
def F_open_from : FnD := fnOf 2 2 b_open_from
def N_law_told : List Str := ["_law_meadow_here", "_law_minute", "_law_e"]
def b_law_told : Ss := (.cons (.ret (.fn "open_from" F_open_from (.cons (.var 0) (.cons (.var 1) .nil))))
  .nil)
def I_law_told : FnD := fnOf 2 3 b_law_told
def F_law_told : FnD := tryD I_law_told (fun c => WDS_law_word.lookup c)
def N_law_due : List Str := ["_law_shuts_here", "_law_minute", "_law_found", "_law_begin", "_law_end"]
def k_law_due_0 : C := .comp [("_law_begin", 3), ("_law_end", 4)] [3, 4] false (.of (.var 0)) (.cons (.chain .le .lt (.var 3) (.var 2) (.var 4)) .nil) (.var 3)
@[simp] theorem o_k_law_due_0 {s : Sta} : opdOf k_law_due_0 (ev k_law_due_0) s = (ev k_law_due_0 s).bind fun d s => .ok (.d d.1) s := rfl
def l_law_due_0 : Ss := (.cons (.asg 2 (.prim .add (.cons (.var 2) (.cons (.lit (.int 1)) .nil))))
  .nil)
def b_law_due : Ss := (.cons (.asg 2 (.var 1))
  (.cons (.whl 100 (.prim .ne (.cons k_law_due_0 (.cons (.lst .nil) .nil))) l_law_due_0)
  (.cons (.ret (.var 2))
  .nil)))
def F_law_due : FnD := fnOf 2 5 b_law_due
def N_law : List Str := ["_law_script", "_law_k", "_law_pot_here", "_law_meadow_here", "_law_far", "_law_minute", "_law_bad", "_law_kept"]
def l_law_0 : Ss := (.cons (.ite (.prim .ne (.cons (.prim .repr (.cons (.fn "_law_told" F_law_told (.cons (.var 3) (.cons (.var 5) .nil))) .nil)) (.cons (.prim .repr (.cons (.fn "_law_due" F_law_due (.cons (.prim .ix (.cons (.var 3) (.cons (.lit (.int 3)) .nil))) (.cons (.var 5) .nil))) .nil)) .nil)))
  (.cons (.ret (.lit (.bl false)))
  .nil)
  .nil)
  .nil)
def l_law_1 : Ss := (.cons (.asg 2 (.fn "_law_pot" F_law_pot (.cons (.fn "_law_cell_at" F_law_cell_at (.cons (.var 0) (.cons (.var 1) .nil))) .nil)))
  (.cons (.asg 3 (.fn "_law_meadow" F_law_meadow (.cons (.var 2) .nil)))
  (.cons (.asg 3 (.prim .add (.cons (.slc (.var 3) .nil (.cons (.lit (.int 3)) .nil)) (.cons (.tup (.cons (.fn "_law_shuts" F_law_shuts (.cons (.var 2) (.cons (.prim .ix (.cons (.lst (.cons (.lit (.int 0)) (.cons (.lit (.int 9900)) (.cons (.lit (.int 3)) .nil)))) (.cons (.fn "_law_take" F_law_take (.cons (.var 2) (.cons (.lit (.int 3)) .nil))) .nil))) .nil))) .nil)) .nil))))
  (.cons (.asg 4 (.prim .add (.cons (.prim .pow (.cons (.lit (.int 10)) (.cons (.lit (.int 4)) .nil))) (.cons (.fn "_law_take" F_law_take (.cons (.var 2) (.cons (.prim .pow (.cons (.lit (.int 10)) (.cons (.lit (.int 26)) .nil))) .nil))) .nil))))
  (.cons (.fr [5] true (.of (.prim .add (.cons (.prim .add (.cons (.prim .listrange (.cons (.prim .neg (.cons (.lit (.int 2)) .nil)) (.cons (.lit (.int 90)) .nil))) (.cons (.prim .listrange (.cons (.lit (.int 9890)) (.cons (.lit (.int 9999)) .nil))) .nil))) (.cons (.lst (.cons (.var 4) (.cons (.prim .sub (.cons (.lit (.int 0)) (.cons (.var 4) .nil))) (.cons (.lit (.int 9999)) .nil)))) .nil)))) l_law_0)
  (.cons (.par [6, 7] (.cons (.fn "_law_bent" (F_law_bent 40) (.cons (.var 2) (.cons (.var 3) .nil))) (.cons (.prim .repr (.cons (.var 3) .nil)) .nil)))
  (.cons (.ite (.and (.nt (.fn "_law_is_meadow" F_law_is_meadow (.cons (.var 6) .nil))) (.or (.prim .ne (.cons (.fn "_law_told" F_law_told (.cons (.var 6) (.cons (.lit (.int 3)) .nil))) (.cons (.lit (.str "meadow")) .nil))) (.prim .ne (.cons (.fn "_law_told" F_law_told (.cons (.var 6) (.cons (.var 4) .nil))) (.cons (.lit (.str "meadow")) .nil)))))
  (.cons (.ret (.lit (.bl false)))
  .nil)
  .nil)
  (.cons (.ite (.prim .ne (.cons (.prim .repr (.cons (.var 3) .nil)) (.cons (.var 7) .nil)))
  (.cons (.ret (.lit (.bl false)))
  .nil)
  .nil)
  .nil))))))))
def b_law : Ss := (.cons (.fr [1] true (.rng1 (.prim .max2 (.cons (.lit (.int 1)) (.cons (.prim .min2 (.cons (.prim .len (.cons (.var 0) .nil)) (.cons (.lit (.int 20)) .nil))) .nil)))) l_law_1)
  (.cons (.ret (.lit (.bl true)))
  .nil))
def F_law : FnD := fnOf 1 8 b_law
end LW

namespace LW
open Dd L2 PyProof.Rows PySem.Spec PySem
def top (i : Nat) : Stmt := PySem.Challenge.pw_downrings_k02_open_minutes.main.body.getD i (.Pass ⟨0, 0, 0, 0⟩)
def d_is_whole : He.DefD := ⟨("is_whole", none), "is_whole", "is_whole", defArgs (top 24), defBody (top 24), defScope (top 24), [], []⟩
def d_is_within : He.DefD := ⟨("is_within", none), "is_within", "is_within", defArgs (top 25), defBody (top 25), defScope (top 25), [], []⟩
def d_is_minute : He.DefD := ⟨("is_minute", none), "is_minute", "is_minute", defArgs (top 26), defBody (top 26), defScope (top 26), [], []⟩
def d_is_row : He.DefD := ⟨("is_row", none), "is_row", "is_row", defArgs (top 27), defBody (top 27), defScope (top 27), [], []⟩
def d_are_straight : He.DefD := ⟨("are_straight", none), "are_straight", "are_straight", defArgs (top 28), defBody (top 28), defScope (top 28), [], []⟩
def d_are_gaps : He.DefD := ⟨("are_gaps", none), "are_gaps", "are_gaps", defArgs (top 29), defBody (top 29), defScope (top 29), [], []⟩
def d_is_stretch : He.DefD := ⟨("is_stretch", none), "is_stretch", "is_stretch", defArgs (top 30), defBody (top 30), defScope (top 30), [], []⟩
def d_are_shuts : He.DefD := ⟨("are_shuts", none), "are_shuts", "are_shuts", defArgs (top 31), defBody (top 31), defScope (top 31), [], []⟩
def d_is_meadow : He.DefD := ⟨("is_meadow", none), "is_meadow", "is_meadow", defArgs (top 32), defBody (top 32), defScope (top 32), [], []⟩
def d_check_meadow : He.DefD := ⟨("check_meadow", none), "check_meadow", "check_meadow", defArgs (top 33), defBody (top 33), defScope (top 33), [], []⟩
def d_open_in : He.DefD := ⟨("open_in", none), "open_in", "open_in", defArgs (top 34), defBody (top 34), defScope (top 34), [], []⟩
def d_open_from : He.DefD := ⟨("open_from", none), "open_from", "open_from", defArgs (top 35), defBody (top 35), defScope (top 35), [], []⟩
def d_law_cell_at : He.DefD := ⟨("_law_cell_at", none), "_law_cell_at", "_law_cell_at", defArgs (top 37), defBody (top 37), defScope (top 37), [], []⟩
def d_law_pot : He.DefD := ⟨("_law_pot", none), "_law_pot", "_law_pot", defArgs (top 38), defBody (top 38), defScope (top 38), [], []⟩
def d_law_take : He.DefD := ⟨("_law_take", none), "_law_take", "_law_take", defArgs (top 39), defBody (top 39), defScope (top 39), [], []⟩
def d_law_whole : He.DefD := ⟨("_law_whole", none), "_law_whole", "_law_whole", defArgs (top 40), defBody (top 40), defScope (top 40), [], []⟩
def d_law_within : He.DefD := ⟨("_law_within", none), "_law_within", "_law_within", defArgs (top 41), defBody (top 41), defScope (top 41), [], []⟩
def d_law_gaps : He.DefD := ⟨("_law_gaps", none), "_law_gaps", "_law_gaps", defArgs (top 42), defBody (top 42), defScope (top 42), [], []⟩
def d_law_shuts : He.DefD := ⟨("_law_shuts", none), "_law_shuts", "_law_shuts", defArgs (top 43), defBody (top 43), defScope (top 43), [], []⟩
def d_law_meadow : He.DefD := ⟨("_law_meadow", none), "_law_meadow", "_law_meadow", defArgs (top 44), defBody (top 44), defScope (top 44), [], []⟩
def d_law_odd : He.DefD := ⟨("_law_odd", none), "_law_odd", "_law_odd", defArgs (top 45), defBody (top 45), defScope (top 45), [], []⟩
def d_law_bent : He.DefD := ⟨("_law_bent", none), "_law_bent", "_law_bent", defArgs (top 46), defBody (top 46), defScope (top 46), [], []⟩
def d_law_word : He.DefD := ⟨("_law_word", none), "_law_word", "_law_word", defArgs (top 47), defBody (top 47), defScope (top 47), [], []⟩
def d_law_is_meadow : He.DefD := ⟨("_law_is_meadow", none), "_law_is_meadow", "_law_is_meadow", defArgs (top 48), defBody (top 48), defScope (top 48), [], []⟩
def d_law_told : He.DefD := ⟨("_law_told", none), "_law_told", "_law_told", defArgs (top 49), defBody (top 49), defScope (top 49), [], []⟩
def d_law_due : He.DefD := ⟨("_law_due", none), "_law_due", "_law_due", defArgs (top 50), defBody (top 50), defScope (top 50), [], []⟩
def d_law : He.DefD := ⟨("law", none), "law", "law", defArgs (top 51), defBody (top 51), defScope (top 51), [], []⟩
def fn : List He.DefD := [d_is_whole, d_is_within, d_is_minute, d_is_row, d_are_straight, d_are_gaps, d_is_stretch, d_are_shuts, d_is_meadow, d_check_meadow, d_open_in, d_open_from, d_law_cell_at, d_law_pot, d_law_take, d_law_whole, d_law_within, d_law_gaps, d_law_shuts, d_law_meadow, d_law_odd, d_law_bent, d_law_word, d_law_is_meadow, d_law_told, d_law_due, d_law]
def fa : List He.Fa := [.glo "is_whole", .glo "is_within", .glo "is_minute", .glo "is_row", .glo "are_straight", .glo "are_gaps", .glo "is_stretch", .glo "are_shuts", .glo "is_meadow", .glo "check_meadow", .glo "open_in", .glo "open_from", .glo "_law_cell_at", .glo "_law_pot", .glo "_law_take", .glo "_law_whole", .glo "_law_within", .glo "_law_gaps", .glo "_law_shuts", .glo "_law_meadow", .glo "_law_odd", .glo "_law_bent", .glo "_law_word", .glo "_law_is_meadow", .glo "_law_told", .glo "_law_due", .glo "law", .free "len", .free "all", .free "any", .free "tuple", .free "list", .free "sum", .free "max", .free "min", .free "int", .free "repr", .free "range", .free "enumerate", .free "zip", .free "isinstance", .free "bool", .free "str", .free "dict", .free "sorted", .free "set", .free "abs", .int "MOST_RINGS" 8, .int "MOST_SINK" 60, .int "MOST_KINDS" 4, .int "MOST_GAP" 99, .int "MOST_SHUTS" 4, .int "MOST_MINUTE" 9999, .glo "NoMeadow", .glo "NoSky", .glo "NoLandings", .glo "NoOrder", .glo "NoLot", .glo "NoText", .glo "NoName", .glo "NoGlider", .glo "NoMinute", .glo "NoAim", .glo "TooMany", .glo "Bound", .glo "NoDeed", .glo "NoRow", .glo "NoWay", .glo "RingError", .exc "NoMeadow", .exm "NoMeadow" "RingError" true, .free "ValueError"]
def loose0 : List PySem.Str := ["is_whole", "is_within", "is_minute", "is_row", "are_straight", "are_gaps", "is_stretch", "are_shuts", "is_meadow", "check_meadow", "open_in", "open_from", "_law_cell_at", "_law_pot", "_law_take", "_law_whole", "_law_within", "_law_gaps", "_law_shuts", "_law_meadow"]
def loose1 : List PySem.Str := ["_law_odd", "_law_bent", "_law_word", "_law_is_meadow", "_law_told", "_law_due", "RingError", "NoMeadow", "NoSky", "NoLandings", "NoOrder", "NoLot", "NoText", "NoName", "NoGlider", "NoMinute", "NoAim", "TooMany", "Bound", "NoDeed"]
def loose2 : List PySem.Str := ["NoRow", "NoWay", "MOST_RINGS", "MOST_SINK", "MOST_KINDS", "MOST_GAP", "MOST_SHUTS", "MOST_MINUTE"]
def loose : List PySem.Str := loose0 ++ loose1 ++ loose2
abbrev R : PySem.W.OpenRow := PySem.W.OpenLaw.row PySem.Challenge.rw_downrings_k02_open_minutes
abbrev hk : PySem.W.Hook := Dd.hookX 4 fa fn XS YS
def ob (s : PySem.W.SharedT) : He.AlD × Bool × Bool := (He.obsDG 4 fa fn (HandSHeadRun.getT s), Dd.sysB (HandSHeadRun.getT s sysModules), Dd.exsB (He.frG (HandSHeadRun.getT s) (He.asD (HandSHeadRun.getT s) 4)) XS YS)
theorem ob_eq (s : PySem.W.SharedT) : ob s = hk.obs s.abs := Dd.hookX_eq (HandSHeadRun.getT_eq s)
theorem run (w : World) : HandSHeadRun.RunEq R (PySem.W.view R.prog [51]) hk ob 12000 loose w := by
  intro os
  kernel_rfl
section
variable {P : Program} {w : World} {K : PySem.W.Frag} {h : Heap} {mg : Str → Option Value} {base : Heap} {xc : Str → Value}
structure Fx (K : PySem.W.Frag) (mg : Str → Option Value) (base : Heap) (xc : Str → Value) : Prop where
  rk : ∀ c ∈ XS, RaiseK K mg xc c
  blt : ∀ x ∈ bltNames, mg x = none
  sys : ∃ o, base.get? sysModules = some o
  is_whole : DefAt K mg "is_whole" (top 24)
  is_within : DefAt K mg "is_within" (top 25)
  is_minute : DefAt K mg "is_minute" (top 26)
  is_row : DefAt K mg "is_row" (top 27)
  are_straight : DefAt K mg "are_straight" (top 28)
  are_gaps : DefAt K mg "are_gaps" (top 29)
  is_stretch : DefAt K mg "is_stretch" (top 30)
  are_shuts : DefAt K mg "are_shuts" (top 31)
  is_meadow : DefAt K mg "is_meadow" (top 32)
  check_meadow : DefAt K mg "check_meadow" (top 33)
  open_in : DefAt K mg "open_in" (top 34)
  open_from : DefAt K mg "open_from" (top 35)
  law_cell_at : DefAt K mg "_law_cell_at" (top 37)
  law_pot : DefAt K mg "_law_pot" (top 38)
  law_take : DefAt K mg "_law_take" (top 39)
  law_whole : DefAt K mg "_law_whole" (top 40)
  law_within : DefAt K mg "_law_within" (top 41)
  law_gaps : DefAt K mg "_law_gaps" (top 42)
  law_shuts : DefAt K mg "_law_shuts" (top 43)
  law_meadow : DefAt K mg "_law_meadow" (top 44)
  law_odd : DefAt K mg "_law_odd" (top 45)
  law_bent : DefAt K mg "_law_bent" (top 46)
  law_word : DefAt K mg "_law_word" (top 47)
  law_is_meadow : DefAt K mg "_law_is_meadow" (top 48)
  law_told : DefAt K mg "_law_told" (top 49)
  law_due : DefAt K mg "_law_due" (top 50)
  law : DefAt K mg "law" (top 51)
  tk : TryK K mg xc T_law_word "_law_word" "RingError" (fun c => WDS_law_word.lookup c)
  c_MOST_RINGS : HasG K mg "MOST_RINGS" (.int 8)
  c_MOST_SINK : HasG K mg "MOST_SINK" (.int 60)
  c_MOST_KINDS : HasG K mg "MOST_KINDS" (.int 4)
  c_MOST_GAP : HasG K mg "MOST_GAP" (.int 99)
  c_MOST_SHUTS : HasG K mg "MOST_SHUTS" (.int 4)
  c_MOST_MINUTE : HasG K mg "MOST_MINUTE" (.int 9999)
theorem wchk_law_word : chkWord T_law_word (defBody (top 47)) = true := by
  kernel_rfl
theorem wsc_law_word : wordSc T_law_word (defScope (top 47)) = true := by
  kernel_rfl
theorem wfs_law_word : C8.scC ["_law_e", "_law_some", "_law_words"] ["_law_e"] (defScope (top 47)) = true := by
  kernel_rfl
theorem wpl_law_word : Plain (top 47) "_law_word" ["_law_e"] := fun _ _ _ _ _ _ us hl => match us, hl with | [_], _ => rfl
theorem wtold_law_word : (WDS_law_word.all fun p => toldB T_law_word YS p.1 p.2) = true := by
  kernel_rfl
theorem ys_of (X : K.In h) (G : h.Ns mainGlobals mg) (c : He.SaysD fa fn K) : ∀ y ∈ YS, mg y = some (.ref (He.ga K y)) := fun y hy => by
  unfold YS at hy
  simp only [List.mem_cons, List.not_mem_nil, or_false] at hy
  rcases hy with rfl | rfl | rfl | rfl | rfl | rfl | rfl | rfl | rfl | rfl | rfl | rfl | rfl | rfl | rfl
  · exact He.glo_ok X G (c.fact 53 (f := .glo "NoMeadow") rfl)
  · exact He.glo_ok X G (c.fact 54 (f := .glo "NoSky") rfl)
  · exact He.glo_ok X G (c.fact 55 (f := .glo "NoLandings") rfl)
  · exact He.glo_ok X G (c.fact 56 (f := .glo "NoOrder") rfl)
  · exact He.glo_ok X G (c.fact 57 (f := .glo "NoLot") rfl)
  · exact He.glo_ok X G (c.fact 58 (f := .glo "NoText") rfl)
  · exact He.glo_ok X G (c.fact 59 (f := .glo "NoName") rfl)
  · exact He.glo_ok X G (c.fact 60 (f := .glo "NoGlider") rfl)
  · exact He.glo_ok X G (c.fact 61 (f := .glo "NoMinute") rfl)
  · exact He.glo_ok X G (c.fact 62 (f := .glo "NoAim") rfl)
  · exact He.glo_ok X G (c.fact 63 (f := .glo "TooMany") rfl)
  · exact He.glo_ok X G (c.fact 64 (f := .glo "Bound") rfl)
  · exact He.glo_ok X G (c.fact 65 (f := .glo "NoDeed") rfl)
  · exact He.glo_ok X G (c.fact 66 (f := .glo "NoRow") rfl)
  · exact He.glo_ok X G (c.fact 67 (f := .glo "NoWay") rfl)
theorem rk_of (X : K.In h) (G : h.Ns mainGlobals mg) (c : He.SaysD fa fn K) : ∀ y ∈ XS, RaiseK K mg (xcOf K) y := fun y hy => by
  unfold XS at hy
  simp only [List.mem_cons, List.not_mem_nil, or_false] at hy
  rcases hy with rfl
  · exact raiseK_of (ys_of X G c _ (by decide)) (c.fact 69 (f := .exc "NoMeadow") rfl)
theorem xm_of (c : He.SaysD fa fn K) : ∀ p ∈ WDS_law_word, PySem.W.exmOne K (.ref (He.ga K p.1)) (.ref (He.ga K "RingError")) = some true := fun p hp => by
  unfold WDS_law_word at hp
  simp only [List.mem_cons, List.not_mem_nil, or_false] at hp
  rcases hp with rfl
  · exact He.exm_ok (c.fact 70 (f := .exm "NoMeadow" "RingError" true) rfl)
theorem fx_of (X : K.In h) (G : h.Ns mainGlobals mg) (c : He.SaysD fa fn K) (hx : exsB K XS YS = true) (hs : ∃ o, base.get? sysModules = some o) : Fx K mg base (xcOf K) where
  rk := rk_of X G c
  sys := hs
  blt := fun x hx => by
    unfold bltNames at hx
    simp only [List.mem_cons, List.not_mem_nil, or_false] at hx
    rcases hx with rfl | rfl | rfl | rfl | rfl | rfl | rfl | rfl | rfl | rfl | rfl | rfl | rfl | rfl | rfl | rfl | rfl | rfl | rfl | rfl
    · exact He.free_ok X G (c.fact 27 (f := .free "len") rfl)
    · exact He.free_ok X G (c.fact 28 (f := .free "all") rfl)
    · exact He.free_ok X G (c.fact 29 (f := .free "any") rfl)
    · exact He.free_ok X G (c.fact 30 (f := .free "tuple") rfl)
    · exact He.free_ok X G (c.fact 31 (f := .free "list") rfl)
    · exact He.free_ok X G (c.fact 32 (f := .free "sum") rfl)
    · exact He.free_ok X G (c.fact 33 (f := .free "max") rfl)
    · exact He.free_ok X G (c.fact 34 (f := .free "min") rfl)
    · exact He.free_ok X G (c.fact 35 (f := .free "int") rfl)
    · exact He.free_ok X G (c.fact 36 (f := .free "repr") rfl)
    · exact He.free_ok X G (c.fact 37 (f := .free "range") rfl)
    · exact He.free_ok X G (c.fact 38 (f := .free "enumerate") rfl)
    · exact He.free_ok X G (c.fact 39 (f := .free "zip") rfl)
    · exact He.free_ok X G (c.fact 40 (f := .free "isinstance") rfl)
    · exact He.free_ok X G (c.fact 41 (f := .free "bool") rfl)
    · exact He.free_ok X G (c.fact 42 (f := .free "str") rfl)
    · exact He.free_ok X G (c.fact 43 (f := .free "dict") rfl)
    · exact He.free_ok X G (c.fact 44 (f := .free "sorted") rfl)
    · exact He.free_ok X G (c.fact 45 (f := .free "set") rfl)
    · exact He.free_ok X G (c.fact 46 (f := .free "abs") rfl)
  is_whole := by
    obtain ⟨fd, F⟩ := c.def_ 0 (d := d_is_whole) rfl
    exact ⟨_, fd, F, He.glo_ok X G (c.fact 0 (f := .glo "is_whole") rfl)⟩
  is_within := by
    obtain ⟨fd, F⟩ := c.def_ 1 (d := d_is_within) rfl
    exact ⟨_, fd, F, He.glo_ok X G (c.fact 1 (f := .glo "is_within") rfl)⟩
  is_minute := by
    obtain ⟨fd, F⟩ := c.def_ 2 (d := d_is_minute) rfl
    exact ⟨_, fd, F, He.glo_ok X G (c.fact 2 (f := .glo "is_minute") rfl)⟩
  is_row := by
    obtain ⟨fd, F⟩ := c.def_ 3 (d := d_is_row) rfl
    exact ⟨_, fd, F, He.glo_ok X G (c.fact 3 (f := .glo "is_row") rfl)⟩
  are_straight := by
    obtain ⟨fd, F⟩ := c.def_ 4 (d := d_are_straight) rfl
    exact ⟨_, fd, F, He.glo_ok X G (c.fact 4 (f := .glo "are_straight") rfl)⟩
  are_gaps := by
    obtain ⟨fd, F⟩ := c.def_ 5 (d := d_are_gaps) rfl
    exact ⟨_, fd, F, He.glo_ok X G (c.fact 5 (f := .glo "are_gaps") rfl)⟩
  is_stretch := by
    obtain ⟨fd, F⟩ := c.def_ 6 (d := d_is_stretch) rfl
    exact ⟨_, fd, F, He.glo_ok X G (c.fact 6 (f := .glo "is_stretch") rfl)⟩
  are_shuts := by
    obtain ⟨fd, F⟩ := c.def_ 7 (d := d_are_shuts) rfl
    exact ⟨_, fd, F, He.glo_ok X G (c.fact 7 (f := .glo "are_shuts") rfl)⟩
  is_meadow := by
    obtain ⟨fd, F⟩ := c.def_ 8 (d := d_is_meadow) rfl
    exact ⟨_, fd, F, He.glo_ok X G (c.fact 8 (f := .glo "is_meadow") rfl)⟩
  check_meadow := by
    obtain ⟨fd, F⟩ := c.def_ 9 (d := d_check_meadow) rfl
    exact ⟨_, fd, F, He.glo_ok X G (c.fact 9 (f := .glo "check_meadow") rfl)⟩
  open_in := by
    obtain ⟨fd, F⟩ := c.def_ 10 (d := d_open_in) rfl
    exact ⟨_, fd, F, He.glo_ok X G (c.fact 10 (f := .glo "open_in") rfl)⟩
  open_from := by
    obtain ⟨fd, F⟩ := c.def_ 11 (d := d_open_from) rfl
    exact ⟨_, fd, F, He.glo_ok X G (c.fact 11 (f := .glo "open_from") rfl)⟩
  law_cell_at := by
    obtain ⟨fd, F⟩ := c.def_ 12 (d := d_law_cell_at) rfl
    exact ⟨_, fd, F, He.glo_ok X G (c.fact 12 (f := .glo "_law_cell_at") rfl)⟩
  law_pot := by
    obtain ⟨fd, F⟩ := c.def_ 13 (d := d_law_pot) rfl
    exact ⟨_, fd, F, He.glo_ok X G (c.fact 13 (f := .glo "_law_pot") rfl)⟩
  law_take := by
    obtain ⟨fd, F⟩ := c.def_ 14 (d := d_law_take) rfl
    exact ⟨_, fd, F, He.glo_ok X G (c.fact 14 (f := .glo "_law_take") rfl)⟩
  law_whole := by
    obtain ⟨fd, F⟩ := c.def_ 15 (d := d_law_whole) rfl
    exact ⟨_, fd, F, He.glo_ok X G (c.fact 15 (f := .glo "_law_whole") rfl)⟩
  law_within := by
    obtain ⟨fd, F⟩ := c.def_ 16 (d := d_law_within) rfl
    exact ⟨_, fd, F, He.glo_ok X G (c.fact 16 (f := .glo "_law_within") rfl)⟩
  law_gaps := by
    obtain ⟨fd, F⟩ := c.def_ 17 (d := d_law_gaps) rfl
    exact ⟨_, fd, F, He.glo_ok X G (c.fact 17 (f := .glo "_law_gaps") rfl)⟩
  law_shuts := by
    obtain ⟨fd, F⟩ := c.def_ 18 (d := d_law_shuts) rfl
    exact ⟨_, fd, F, He.glo_ok X G (c.fact 18 (f := .glo "_law_shuts") rfl)⟩
  law_meadow := by
    obtain ⟨fd, F⟩ := c.def_ 19 (d := d_law_meadow) rfl
    exact ⟨_, fd, F, He.glo_ok X G (c.fact 19 (f := .glo "_law_meadow") rfl)⟩
  law_odd := by
    obtain ⟨fd, F⟩ := c.def_ 20 (d := d_law_odd) rfl
    exact ⟨_, fd, F, He.glo_ok X G (c.fact 20 (f := .glo "_law_odd") rfl)⟩
  law_bent := by
    obtain ⟨fd, F⟩ := c.def_ 21 (d := d_law_bent) rfl
    exact ⟨_, fd, F, He.glo_ok X G (c.fact 21 (f := .glo "_law_bent") rfl)⟩
  law_word := by
    obtain ⟨fd, F⟩ := c.def_ 22 (d := d_law_word) rfl
    exact ⟨_, fd, F, He.glo_ok X G (c.fact 22 (f := .glo "_law_word") rfl)⟩
  law_is_meadow := by
    obtain ⟨fd, F⟩ := c.def_ 23 (d := d_law_is_meadow) rfl
    exact ⟨_, fd, F, He.glo_ok X G (c.fact 23 (f := .glo "_law_is_meadow") rfl)⟩
  law_told := by
    obtain ⟨fd, F⟩ := c.def_ 24 (d := d_law_told) rfl
    exact ⟨_, fd, F, He.glo_ok X G (c.fact 24 (f := .glo "_law_told") rfl)⟩
  law_due := by
    obtain ⟨fd, F⟩ := c.def_ 25 (d := d_law_due) rfl
    exact ⟨_, fd, F, He.glo_ok X G (c.fact 25 (f := .glo "_law_due") rfl)⟩
  law := by
    obtain ⟨fd, F⟩ := c.def_ 26 (d := d_law) rfl
    exact ⟨_, fd, F, He.glo_ok X G (c.fact 26 (f := .glo "law") rfl)⟩
  tk := tryK_of (wordF_of (x := "_law_word") (st := (top 47)) (by
    obtain ⟨fd, F⟩ := c.def_ 22 (d := d_law_word) rfl
    exact ⟨_, fd, F, He.glo_ok X G (c.fact 22 (f := .glo "_law_word") rfl)⟩) wfs_law_word wchk_law_word wsc_law_word wpl_law_word (He.free_ok X G (c.fact 40 (f := .free "isinstance") rfl)) (He.free_ok X G (c.fact 71 (f := .free "ValueError") rfl)))
    (ys_of X G c) (He.glo_ok X G (c.fact 68 (f := .glo "RingError") rfl)) (xm_of c) hx wtold_law_word
  c_MOST_RINGS := hasG_int (He.int_ok X G (c.fact 47 rfl))
  c_MOST_SINK := hasG_int (He.int_ok X G (c.fact 48 rfl))
  c_MOST_KINDS := hasG_int (He.int_ok X G (c.fact 49 rfl))
  c_MOST_GAP := hasG_int (He.int_ok X G (c.fact 50 rfl))
  c_MOST_SHUTS := hasG_int (He.int_ok X G (c.fact 51 rfl))
  c_MOST_MINUTE := hasG_int (He.int_ok X G (c.fact 52 rfl))
theorem cal_law_pot {R : Str → FnD → Prop} {R2 : Str → D → Prop} : CalSs R R2 b_law_pot := by
  simp only [b_law_pot, l_law_pot_0, CalSs, CalS, CalEs, CalE, CalI, CalFs, and_self, and_true, true_and]
theorem chk_law_pot : chkSs ⟨N_law_pot, defScope (top 38), fun _ => true, XS⟩ b_law_pot (defBody (top 38)) = true := by
  kernel_rfl
theorem sc_law_pot : C8.scC N_law_pot ["_law_cell"] (defScope (top 38)) = true := by
  kernel_rfl
theorem pl_law_pot : Plain (top 38) "_law_pot" ["_law_cell"] := fun _ _ _ _ _ _ us hl => match us, hl with | [_], _ => rfl
theorem ok_law_pot (X : Fx K mg base xc) : Has P w K mg base xc 1 "_law_pot" F_law_pot := has_def X.law_pot sc_law_pot chk_law_pot pl_law_pot X.blt X.sys X.rk (cal_law_pot)
theorem cal_law_take {R : Str → FnD → Prop} {R2 : Str → D → Prop} : CalSs R R2 b_law_take := by
  simp only [b_law_take, CalSs, CalS, CalEs, CalE, CalI, CalFs, and_self, and_true, true_and]
theorem chk_law_take : chkSs ⟨N_law_take, defScope (top 39), fun _ => true, XS⟩ b_law_take (defBody (top 39)) = true := by
  kernel_rfl
theorem sc_law_take : C8.scC N_law_take ["_law_pot_here", "_law_far"] (defScope (top 39)) = true := by
  kernel_rfl
theorem pl_law_take : Plain (top 39) "_law_take" ["_law_pot_here", "_law_far"] := fun _ _ _ _ _ _ us hl => match us, hl with | [_, _], _ => rfl
theorem ok_law_take (X : Fx K mg base xc) : Has P w K mg base xc 1 "_law_take" F_law_take := has_def X.law_take sc_law_take chk_law_take pl_law_take X.blt X.sys X.rk (cal_law_take)
theorem cal_law_gaps {R : Str → FnD → Prop} {R2 : Str → D → Prop} (h0 : R "_law_take" F_law_take) : CalSs R R2 b_law_gaps := by
  simp only [b_law_gaps, k_law_gaps_0, k_law_gaps_1, k_law_gaps_2, l_law_gaps_0, k_law_gaps_3, k_law_gaps_4, k_law_gaps_5, k_law_gaps_6, CalSs, CalS, CalEs, CalE, CalI, CalFs, and_self, and_true, true_and, h0]
theorem chk_law_gaps : chkSs ⟨N_law_gaps, defScope (top 42), fun _ => true, XS⟩ b_law_gaps (defBody (top 42)) = true := by
  kernel_rfl
theorem sc_law_gaps : C8.scC N_law_gaps ["_law_pot_here"] (defScope (top 42)) = true := by
  kernel_rfl
theorem pl_law_gaps : Plain (top 42) "_law_gaps" ["_law_pot_here"] := fun _ _ _ _ _ _ us hl => match us, hl with | [_], _ => rfl
theorem ok_law_gaps (X : Fx K mg base xc) : Has P w K mg base xc 2 "_law_gaps" F_law_gaps := has_def X.law_gaps sc_law_gaps chk_law_gaps pl_law_gaps X.blt X.sys X.rk (cal_law_gaps ((ok_law_take X).mono (by decide)))
theorem cal_law_shuts {R : Str → FnD → Prop} {R2 : Str → D → Prop} (h0 : R "_law_take" F_law_take) : CalSs R R2 b_law_shuts := by
  simp only [b_law_shuts, l_law_shuts_0, CalSs, CalS, CalEs, CalE, CalI, CalFs, and_self, and_true, true_and, h0]
theorem chk_law_shuts : chkSs ⟨N_law_shuts, defScope (top 43), fun _ => true, XS⟩ b_law_shuts (defBody (top 43)) = true := by
  kernel_rfl
theorem sc_law_shuts : C8.scC N_law_shuts ["_law_pot_here", "_law_now"] (defScope (top 43)) = true := by
  kernel_rfl
theorem pl_law_shuts : Plain (top 43) "_law_shuts" ["_law_pot_here", "_law_now"] := fun _ _ _ _ _ _ us hl => match us, hl with | [_, _], _ => rfl
theorem ok_law_shuts (X : Fx K mg base xc) : Has P w K mg base xc 2 "_law_shuts" F_law_shuts := has_def X.law_shuts sc_law_shuts chk_law_shuts pl_law_shuts X.blt X.sys X.rk (cal_law_shuts ((ok_law_take X).mono (by decide)))
theorem cal_law_meadow {R : Str → FnD → Prop} {R2 : Str → D → Prop} (h0 : R "_law_shuts" F_law_shuts) (h1 : R "_law_gaps" F_law_gaps) (h2 : R "_law_take" F_law_take) : CalSs R R2 b_law_meadow := by
  simp only [b_law_meadow, CalSs, CalS, CalEs, CalE, CalI, CalFs, and_self, and_true, true_and, h0, h1, h2]
theorem chk_law_meadow : chkSs ⟨N_law_meadow, defScope (top 44), fun _ => true, XS⟩ b_law_meadow (defBody (top 44)) = true := by
  kernel_rfl
theorem sc_law_meadow : C8.scC N_law_meadow ["_law_pot_here"] (defScope (top 44)) = true := by
  kernel_rfl
theorem pl_law_meadow : Plain (top 44) "_law_meadow" ["_law_pot_here"] := fun _ _ _ _ _ _ us hl => match us, hl with | [_], _ => rfl
theorem ok_law_meadow (X : Fx K mg base xc) : Has P w K mg base xc 3 "_law_meadow" F_law_meadow := has_def X.law_meadow sc_law_meadow chk_law_meadow pl_law_meadow X.blt X.sys X.rk (cal_law_meadow ((ok_law_shuts X).mono (by decide)) ((ok_law_gaps X).mono (by decide)) ((ok_law_take X).mono (by decide)))
theorem cal_law_cell_at {R : Str → FnD → Prop} {R2 : Str → D → Prop} : CalSs R R2 b_law_cell_at := by
  simp only [b_law_cell_at, CalSs, CalS, CalEs, CalE, CalI, CalFs, and_self, and_true, true_and]
theorem chk_law_cell_at : chkSs ⟨N_law_cell_at, defScope (top 37), fun _ => true, XS⟩ b_law_cell_at (defBody (top 37)) = true := by
  kernel_rfl
theorem sc_law_cell_at : C8.scC N_law_cell_at ["_law_script", "_law_k"] (defScope (top 37)) = true := by
  kernel_rfl
theorem pl_law_cell_at : Plain (top 37) "_law_cell_at" ["_law_script", "_law_k"] := fun _ _ _ _ _ _ us hl => match us, hl with | [_, _], _ => rfl
theorem ok_law_cell_at (X : Fx K mg base xc) : Has P w K mg base xc 1 "_law_cell_at" F_law_cell_at := has_def X.law_cell_at sc_law_cell_at chk_law_cell_at pl_law_cell_at X.blt X.sys X.rk (cal_law_cell_at)
theorem cal_law_odd {R : Str → FnD → Prop} {R2 : Str → D → Prop} (h0 : R "_law_take" F_law_take) : CalSs R R2 b_law_odd := by
  simp only [b_law_odd, CalSs, CalS, CalEs, CalE, CalI, CalFs, and_self, and_true, true_and, h0]
theorem chk_law_odd : chkSs ⟨N_law_odd, defScope (top 45), fun _ => true, XS⟩ b_law_odd (defBody (top 45)) = true := by
  kernel_rfl
theorem sc_law_odd : C8.scC N_law_odd ["_law_pot_here"] (defScope (top 45)) = true := by
  kernel_rfl
theorem pl_law_odd : Plain (top 45) "_law_odd" ["_law_pot_here"] := fun _ _ _ _ _ _ us hl => match us, hl with | [_], _ => rfl
theorem ok_law_odd (X : Fx K mg base xc) : Has P w K mg base xc 2 "_law_odd" F_law_odd := has_def X.law_odd sc_law_odd chk_law_odd pl_law_odd X.blt X.sys X.rk (cal_law_odd ((ok_law_take X).mono (by decide)))
theorem cal_law_whole {R : Str → FnD → Prop} {R2 : Str → D → Prop} : CalSs R R2 b_law_whole := by
  simp only [b_law_whole, CalSs, CalS, CalEs, CalE, CalI, CalFs, and_self, and_true, true_and]
theorem chk_law_whole : chkSs ⟨N_law_whole, defScope (top 40), fun _ => true, XS⟩ b_law_whole (defBody (top 40)) = true := by
  kernel_rfl
theorem sc_law_whole : C8.scC N_law_whole ["_law_thing"] (defScope (top 40)) = true := by
  kernel_rfl
theorem pl_law_whole : Plain (top 40) "_law_whole" ["_law_thing"] := fun _ _ _ _ _ _ us hl => match us, hl with | [_], _ => rfl
theorem ok_law_whole (X : Fx K mg base xc) : Has P w K mg base xc 1 "_law_whole" F_law_whole := has_def X.law_whole sc_law_whole chk_law_whole pl_law_whole X.blt X.sys X.rk (cal_law_whole)
theorem cal_law_bent {R : Str → FnD → Prop} {R2 : Str → D → Prop} {self : FnD} (hs : R "_law_bent" self) (h0 : R "_law_take" F_law_take) (h1 : R "_law_odd" F_law_odd) (h2 : R "_law_whole" F_law_whole) : CalSs R R2 (b_law_bent self) := by
  simp only [b_law_bent, CalSs, CalS, CalEs, CalE, CalI, CalFs, and_self, and_true, true_and, hs, h0, h1, h2]
theorem chk_law_bent (self : FnD) : chkSs ⟨N_law_bent, defScope (top 46), fun _ => true, XS⟩ (b_law_bent self) (defBody (top 46)) = true := by
  kernel_rfl
theorem sc_law_bent : C8.scC N_law_bent ["_law_pot_here", "_law_thing"] (defScope (top 46)) = true := by
  kernel_rfl
theorem pl_law_bent : Plain (top 46) "_law_bent" ["_law_pot_here", "_law_thing"] := fun _ _ _ _ _ _ us hl => match us, hl with | [_, _], _ => rfl
theorem okn_law_bent (X : Fx K mg base xc) : ∀ n : Nat, Has P w K mg base xc (2 + n) "_law_bent" (F_law_bent n)
  | 0 => by
    obtain ⟨f, fd, F, hm⟩ := X.law_bent
    exact ⟨f, fd, ["_law_pot_here", "_law_thing"], ⟨fun ds h z => absurd rfl z, fun A outer s H args us vs Q E _ _ _ _ _ hsp => by
      obtain ⟨_, _, _, _, _, z⟩ := hsp
      exact z.elim⟩, hm, F.kp, F.bindsN pl_law_bent⟩
  | n + 1 => has_def X.law_bent sc_law_bent (chk_law_bent _) pl_law_bent X.blt X.sys X.rk (cal_law_bent (okn_law_bent X n) ((ok_law_take X).mono (Nat.le_trans (by decide) (Nat.le_add_right _ n))) ((ok_law_odd X).mono (Nat.le_trans (by decide) (Nat.le_add_right _ n))) ((ok_law_whole X).mono (Nat.le_trans (by decide) (Nat.le_add_right _ n))))
theorem ok_law_bent (X : Fx K mg base xc) (n : Nat) : Has P w K mg base xc (2 + n) "_law_bent" (F_law_bent n) := okn_law_bent X n
theorem cal_law_within {R : Str → FnD → Prop} {R2 : Str → D → Prop} (h0 : R "_law_whole" F_law_whole) : CalSs R R2 b_law_within := by
  simp only [b_law_within, CalSs, CalS, CalEs, CalE, CalI, CalFs, and_self, and_true, true_and, h0]
theorem chk_law_within : chkSs ⟨N_law_within, defScope (top 41), fun _ => true, XS⟩ b_law_within (defBody (top 41)) = true := by
  kernel_rfl
theorem sc_law_within : C8.scC N_law_within ["_law_thing", "_law_low", "_law_high"] (defScope (top 41)) = true := by
  kernel_rfl
theorem pl_law_within : Plain (top 41) "_law_within" ["_law_thing", "_law_low", "_law_high"] := fun _ _ _ _ _ _ us hl => match us, hl with | [_, _, _], _ => rfl
theorem ok_law_within (X : Fx K mg base xc) : Has P w K mg base xc 2 "_law_within" F_law_within := has_def X.law_within sc_law_within chk_law_within pl_law_within X.blt X.sys X.rk (cal_law_within ((ok_law_whole X).mono (by decide)))
theorem cal_law_is_meadow {R : Str → FnD → Prop} {R2 : Str → D → Prop} (h0 : R "_law_within" F_law_within) : CalSs R R2 b_law_is_meadow := by
  simp only [b_law_is_meadow, k_law_is_meadow_0, l_law_is_meadow_0, k_law_is_meadow_1, l_law_is_meadow_1, l_law_is_meadow_2, k_law_is_meadow_2, l_law_is_meadow_3, CalSs, CalS, CalEs, CalE, CalI, CalFs, and_self, and_true, true_and, h0]
theorem chk_law_is_meadow : chkSs ⟨N_law_is_meadow, defScope (top 48), fun _ => true, XS⟩ b_law_is_meadow (defBody (top 48)) = true := by
  kernel_rfl
theorem sc_law_is_meadow : C8.scC N_law_is_meadow ["_law_thing"] (defScope (top 48)) = true := by
  kernel_rfl
theorem pl_law_is_meadow : Plain (top 48) "_law_is_meadow" ["_law_thing"] := fun _ _ _ _ _ _ us hl => match us, hl with | [_], _ => rfl
theorem ok_law_is_meadow (X : Fx K mg base xc) : Has P w K mg base xc 3 "_law_is_meadow" F_law_is_meadow := has_def X.law_is_meadow sc_law_is_meadow chk_law_is_meadow pl_law_is_meadow X.blt X.sys X.rk (cal_law_is_meadow ((ok_law_within X).mono (by decide)))
theorem cal_are_straight {R : Str → FnD → Prop} {R2 : Str → D → Prop} : CalSs R R2 b_are_straight := by
  simp only [b_are_straight, l_are_straight_0, l_are_straight_1, l_are_straight_2, CalSs, CalS, CalEs, CalE, CalI, CalFs, and_self, and_true, true_and]
theorem chk_are_straight : chkSs ⟨N_are_straight, defScope (top 28), fun _ => true, XS⟩ b_are_straight (defBody (top 28)) = true := by
  kernel_rfl
theorem sc_are_straight : C8.scC N_are_straight ["gaps"] (defScope (top 28)) = true := by
  kernel_rfl
theorem pl_are_straight : Plain (top 28) "are_straight" ["gaps"] := fun _ _ _ _ _ _ us hl => match us, hl with | [_], _ => rfl
theorem ok_are_straight (X : Fx K mg base xc) : Has P w K mg base xc 1 "are_straight" F_are_straight := has_def X.are_straight sc_are_straight chk_are_straight pl_are_straight X.blt X.sys X.rk (cal_are_straight)
theorem cal_is_whole {R : Str → FnD → Prop} {R2 : Str → D → Prop} : CalSs R R2 b_is_whole := by
  simp only [b_is_whole, CalSs, CalS, CalEs, CalE, CalI, CalFs, and_self, and_true, true_and]
theorem chk_is_whole : chkSs ⟨N_is_whole, defScope (top 24), fun _ => true, XS⟩ b_is_whole (defBody (top 24)) = true := by
  kernel_rfl
theorem sc_is_whole : C8.scC N_is_whole ["thing"] (defScope (top 24)) = true := by
  kernel_rfl
theorem pl_is_whole : Plain (top 24) "is_whole" ["thing"] := fun _ _ _ _ _ _ us hl => match us, hl with | [_], _ => rfl
theorem ok_is_whole (X : Fx K mg base xc) : Has P w K mg base xc 1 "is_whole" F_is_whole := has_def X.is_whole sc_is_whole chk_is_whole pl_is_whole X.blt X.sys X.rk (cal_is_whole)
theorem cal_is_within {R : Str → FnD → Prop} {R2 : Str → D → Prop} (h0 : R "is_whole" F_is_whole) : CalSs R R2 b_is_within := by
  simp only [b_is_within, CalSs, CalS, CalEs, CalE, CalI, CalFs, and_self, and_true, true_and, h0]
theorem chk_is_within : chkSs ⟨N_is_within, defScope (top 25), fun _ => true, XS⟩ b_is_within (defBody (top 25)) = true := by
  kernel_rfl
theorem sc_is_within : C8.scC N_is_within ["thing", "low", "high"] (defScope (top 25)) = true := by
  kernel_rfl
theorem pl_is_within : Plain (top 25) "is_within" ["thing", "low", "high"] := fun _ _ _ _ _ _ us hl => match us, hl with | [_, _, _], _ => rfl
theorem ok_is_within (X : Fx K mg base xc) : Has P w K mg base xc 2 "is_within" F_is_within := has_def X.is_within sc_is_within chk_is_within pl_is_within X.blt X.sys X.rk (cal_is_within ((ok_is_whole X).mono (by decide)))
theorem cal_is_row {R : Str → FnD → Prop} {R2 : Str → D → Prop} (h0 : R "is_within" F_is_within) (g0 : R2 "MOST_GAP" (.int 99)) : CalSs R R2 b_is_row := by
  simp only [b_is_row, k_is_row_0, CalSs, CalS, CalEs, CalE, CalI, CalFs, and_self, and_true, true_and, h0, g0]
theorem chk_is_row : chkSs ⟨N_is_row, defScope (top 27), fun _ => true, XS⟩ b_is_row (defBody (top 27)) = true := by
  kernel_rfl
theorem sc_is_row : C8.scC N_is_row ["thing", "many"] (defScope (top 27)) = true := by
  kernel_rfl
theorem pl_is_row : Plain (top 27) "is_row" ["thing", "many"] := fun _ _ _ _ _ _ us hl => match us, hl with | [_, _], _ => rfl
theorem ok_is_row (X : Fx K mg base xc) : Has P w K mg base xc 3 "is_row" F_is_row := has_def X.is_row sc_is_row chk_is_row pl_is_row X.blt X.sys X.rk (cal_is_row ((ok_is_within X).mono (by decide)) X.c_MOST_GAP)
theorem cal_are_gaps {R : Str → FnD → Prop} {R2 : Str → D → Prop} (h0 : R "are_straight" F_are_straight) (h1 : R "is_row" F_is_row) (g0 : R2 "MOST_KINDS" (.int 4)) : CalSs R R2 b_are_gaps := by
  simp only [b_are_gaps, k_are_gaps_0, CalSs, CalS, CalEs, CalE, CalI, CalFs, and_self, and_true, true_and, h0, h1, g0]
theorem chk_are_gaps : chkSs ⟨N_are_gaps, defScope (top 29), fun _ => true, XS⟩ b_are_gaps (defBody (top 29)) = true := by
  kernel_rfl
theorem sc_are_gaps : C8.scC N_are_gaps ["thing"] (defScope (top 29)) = true := by
  kernel_rfl
theorem pl_are_gaps : Plain (top 29) "are_gaps" ["thing"] := fun _ _ _ _ _ _ us hl => match us, hl with | [_], _ => rfl
theorem ok_are_gaps (X : Fx K mg base xc) : Has P w K mg base xc 4 "are_gaps" F_are_gaps := has_def X.are_gaps sc_are_gaps chk_are_gaps pl_are_gaps X.blt X.sys X.rk (cal_are_gaps ((ok_are_straight X).mono (by decide)) ((ok_is_row X).mono (by decide)) X.c_MOST_KINDS)
theorem cal_is_minute {R : Str → FnD → Prop} {R2 : Str → D → Prop} (h0 : R "is_within" F_is_within) (g0 : R2 "MOST_MINUTE" (.int 9999)) : CalSs R R2 b_is_minute := by
  simp only [b_is_minute, CalSs, CalS, CalEs, CalE, CalI, CalFs, and_self, and_true, true_and, h0, g0]
theorem chk_is_minute : chkSs ⟨N_is_minute, defScope (top 26), fun _ => true, XS⟩ b_is_minute (defBody (top 26)) = true := by
  kernel_rfl
theorem sc_is_minute : C8.scC N_is_minute ["thing"] (defScope (top 26)) = true := by
  kernel_rfl
theorem pl_is_minute : Plain (top 26) "is_minute" ["thing"] := fun _ _ _ _ _ _ us hl => match us, hl with | [_], _ => rfl
theorem ok_is_minute (X : Fx K mg base xc) : Has P w K mg base xc 3 "is_minute" F_is_minute := has_def X.is_minute sc_is_minute chk_is_minute pl_is_minute X.blt X.sys X.rk (cal_is_minute ((ok_is_within X).mono (by decide)) X.c_MOST_MINUTE)
theorem cal_is_stretch {R : Str → FnD → Prop} {R2 : Str → D → Prop} (h0 : R "is_minute" F_is_minute) : CalSs R R2 b_is_stretch := by
  simp only [b_is_stretch, CalSs, CalS, CalEs, CalE, CalI, CalFs, and_self, and_true, true_and, h0]
theorem chk_is_stretch : chkSs ⟨N_is_stretch, defScope (top 30), fun _ => true, XS⟩ b_is_stretch (defBody (top 30)) = true := by
  kernel_rfl
theorem sc_is_stretch : C8.scC N_is_stretch ["thing"] (defScope (top 30)) = true := by
  kernel_rfl
theorem pl_is_stretch : Plain (top 30) "is_stretch" ["thing"] := fun _ _ _ _ _ _ us hl => match us, hl with | [_], _ => rfl
theorem ok_is_stretch (X : Fx K mg base xc) : Has P w K mg base xc 4 "is_stretch" F_is_stretch := has_def X.is_stretch sc_is_stretch chk_is_stretch pl_is_stretch X.blt X.sys X.rk (cal_is_stretch ((ok_is_minute X).mono (by decide)))
theorem cal_are_shuts {R : Str → FnD → Prop} {R2 : Str → D → Prop} (h0 : R "is_stretch" F_is_stretch) (g0 : R2 "MOST_SHUTS" (.int 4)) : CalSs R R2 b_are_shuts := by
  simp only [b_are_shuts, k_are_shuts_0, k_are_shuts_1, CalSs, CalS, CalEs, CalE, CalI, CalFs, and_self, and_true, true_and, h0, g0]
theorem chk_are_shuts : chkSs ⟨N_are_shuts, defScope (top 31), fun _ => true, XS⟩ b_are_shuts (defBody (top 31)) = true := by
  kernel_rfl
theorem sc_are_shuts : C8.scC N_are_shuts ["thing"] (defScope (top 31)) = true := by
  kernel_rfl
theorem pl_are_shuts : Plain (top 31) "are_shuts" ["thing"] := fun _ _ _ _ _ _ us hl => match us, hl with | [_], _ => rfl
theorem ok_are_shuts (X : Fx K mg base xc) : Has P w K mg base xc 5 "are_shuts" F_are_shuts := has_def X.are_shuts sc_are_shuts chk_are_shuts pl_are_shuts X.blt X.sys X.rk (cal_are_shuts ((ok_is_stretch X).mono (by decide)) X.c_MOST_SHUTS)
theorem cal_is_meadow {R : Str → FnD → Prop} {R2 : Str → D → Prop} (h0 : R "are_shuts" F_are_shuts) (h1 : R "are_gaps" F_are_gaps) (h2 : R "is_within" F_is_within) (g0 : R2 "MOST_SINK" (.int 60)) (g1 : R2 "MOST_RINGS" (.int 8)) : CalSs R R2 b_is_meadow := by
  simp only [b_is_meadow, CalSs, CalS, CalEs, CalE, CalI, CalFs, and_self, and_true, true_and, h0, h1, h2, g0, g1]
theorem chk_is_meadow : chkSs ⟨N_is_meadow, defScope (top 32), fun _ => true, XS⟩ b_is_meadow (defBody (top 32)) = true := by
  kernel_rfl
theorem sc_is_meadow : C8.scC N_is_meadow ["thing"] (defScope (top 32)) = true := by
  kernel_rfl
theorem pl_is_meadow : Plain (top 32) "is_meadow" ["thing"] := fun _ _ _ _ _ _ us hl => match us, hl with | [_], _ => rfl
theorem ok_is_meadow (X : Fx K mg base xc) : Has P w K mg base xc 6 "is_meadow" F_is_meadow := has_def X.is_meadow sc_is_meadow chk_is_meadow pl_is_meadow X.blt X.sys X.rk (cal_is_meadow ((ok_are_shuts X).mono (by decide)) ((ok_are_gaps X).mono (by decide)) ((ok_is_within X).mono (by decide)) X.c_MOST_SINK X.c_MOST_RINGS)
theorem cal_check_meadow {R : Str → FnD → Prop} {R2 : Str → D → Prop} (h0 : R "is_meadow" F_is_meadow) : CalSs R R2 b_check_meadow := by
  simp only [b_check_meadow, CalSs, CalS, CalEs, CalE, CalI, CalFs, and_self, and_true, true_and, h0]
theorem chk_check_meadow : chkSs ⟨N_check_meadow, defScope (top 33), fun _ => true, XS⟩ b_check_meadow (defBody (top 33)) = true := by
  kernel_rfl
theorem sc_check_meadow : C8.scC N_check_meadow ["meadow"] (defScope (top 33)) = true := by
  kernel_rfl
theorem pl_check_meadow : Plain (top 33) "check_meadow" ["meadow"] := fun _ _ _ _ _ _ us hl => match us, hl with | [_], _ => rfl
theorem ok_check_meadow (X : Fx K mg base xc) : Has P w K mg base xc 7 "check_meadow" F_check_meadow := has_def X.check_meadow sc_check_meadow chk_check_meadow pl_check_meadow X.blt X.sys X.rk (cal_check_meadow ((ok_is_meadow X).mono (by decide)))
theorem cal_open_in {R : Str → FnD → Prop} {R2 : Str → D → Prop} : CalSs R R2 b_open_in := by
  simp only [b_open_in, l_open_in_0, CalSs, CalS, CalEs, CalE, CalI, CalFs, and_self, and_true, true_and]
theorem chk_open_in : chkSs ⟨N_open_in, defScope (top 34), fun _ => true, XS⟩ b_open_in (defBody (top 34)) = true := by
  kernel_rfl
theorem sc_open_in : C8.scC N_open_in ["shuts", "minute"] (defScope (top 34)) = true := by
  kernel_rfl
theorem pl_open_in : Plain (top 34) "open_in" ["shuts", "minute"] := fun _ _ _ _ _ _ us hl => match us, hl with | [_, _], _ => rfl
theorem ok_open_in (X : Fx K mg base xc) : Has P w K mg base xc 1 "open_in" F_open_in := has_def X.open_in sc_open_in chk_open_in pl_open_in X.blt X.sys X.rk (cal_open_in)
theorem cal_open_from {R : Str → FnD → Prop} {R2 : Str → D → Prop} (h0 : R "open_in" F_open_in) (h1 : R "check_meadow" F_check_meadow) : CalSs R R2 b_open_from := by
  simp only [b_open_from, CalSs, CalS, CalEs, CalE, CalI, CalFs, and_self, and_true, true_and, h0, h1]
theorem chk_open_from : chkSs ⟨N_open_from, defScope (top 35), fun _ => true, XS⟩ b_open_from (defBody (top 35)) = true := by
  kernel_rfl
theorem sc_open_from : C8.scC N_open_from ["meadow", "minute"] (defScope (top 35)) = true := by
  kernel_rfl
theorem pl_open_from : Plain (top 35) "open_from" ["meadow", "minute"] := fun _ _ _ _ _ _ us hl => match us, hl with | [_, _], _ => rfl
theorem ok_open_from (X : Fx K mg base xc) : Has P w K mg base xc 8 "open_from" F_open_from := has_def X.open_from sc_open_from chk_open_from pl_open_from X.blt X.sys X.rk (cal_open_from ((ok_open_in X).mono (by decide)) ((ok_check_meadow X).mono (by decide)))
theorem cal_law_told {R : Str → FnD → Prop} {R2 : Str → D → Prop} (h0 : R "open_from" F_open_from) : CalSs R R2 b_law_told := by
  simp only [b_law_told, CalSs, CalS, CalEs, CalE, CalI, CalFs, and_self, and_true, true_and, h0]
theorem chk_law_told : chkTry ⟨N_law_told, defScope (top 49), fun _ => true, []⟩ b_law_told "_law_word" "_law_e" "RingError" (defBody (top 49)) = true := by
  kernel_rfl
theorem sc_law_told : C8.scC N_law_told ["_law_meadow_here", "_law_minute"] (defScope (top 49)) = true := by
  kernel_rfl
theorem pl_law_told : Plain (top 49) "_law_told" ["_law_meadow_here", "_law_minute"] := fun _ _ _ _ _ _ us hl => match us, hl with | [_, _], _ => rfl
theorem ok_law_told (X : Fx K mg base xc) : Has P w K mg base xc 9 "_law_told" F_law_told := has_try (i := 2) X.law_told sc_law_told chk_law_told rfl pl_law_told X.blt X.sys X.tk (cal_law_told ((ok_open_from X).mono (by decide)))
theorem cal_law_due {R : Str → FnD → Prop} {R2 : Str → D → Prop} : CalSs R R2 b_law_due := by
  simp only [b_law_due, k_law_due_0, l_law_due_0, CalSs, CalS, CalEs, CalE, CalI, CalFs, and_self, and_true, true_and]
theorem chk_law_due : chkSs ⟨N_law_due, defScope (top 50), fun _ => true, XS⟩ b_law_due (defBody (top 50)) = true := by
  kernel_rfl
theorem sc_law_due : C8.scC N_law_due ["_law_shuts_here", "_law_minute"] (defScope (top 50)) = true := by
  kernel_rfl
theorem pl_law_due : Plain (top 50) "_law_due" ["_law_shuts_here", "_law_minute"] := fun _ _ _ _ _ _ us hl => match us, hl with | [_, _], _ => rfl
theorem ok_law_due (X : Fx K mg base xc) : Has P w K mg base xc 1 "_law_due" F_law_due := has_def X.law_due sc_law_due chk_law_due pl_law_due X.blt X.sys X.rk (cal_law_due)
theorem cal_law {R : Str → FnD → Prop} {R2 : Str → D → Prop} (h0 : R "_law_told" F_law_told) (h1 : R "_law_is_meadow" F_law_is_meadow) (h2 : R "_law_bent" (F_law_bent 40)) (h3 : R "_law_due" F_law_due) (h4 : R "_law_take" F_law_take) (h5 : R "_law_shuts" F_law_shuts) (h6 : R "_law_meadow" F_law_meadow) (h7 : R "_law_pot" F_law_pot) (h8 : R "_law_cell_at" F_law_cell_at) : CalSs R R2 b_law := by
  simp only [b_law, l_law_0, l_law_1, CalSs, CalS, CalEs, CalE, CalI, CalFs, and_self, and_true, true_and, h0, h1, h2, h3, h4, h5, h6, h7, h8]
theorem chk_law : chkSs ⟨N_law, defScope (top 51), fun _ => true, XS⟩ b_law (defBody (top 51)) = true := by
  kernel_rfl
theorem sc_law : C8.scC N_law ["_law_script"] (defScope (top 51)) = true := by
  kernel_rfl
theorem pl_law : Plain (top 51) "law" ["_law_script"] := fun _ _ _ _ _ _ us hl => match us, hl with | [_], _ => rfl
theorem ok_law (X : Fx K mg base xc) {f : Addr} {fd : FuncData} (F : FunD K "law" "law" (defArgs (top 51)) (defBody (top 51)) (defScope (top 51)) [] [] f fd) : FnG P w K mg base xc 43 f fd ["_law_script"] F_law := fnG_def F sc_law chk_law X.blt X.sys X.rk (cal_law ((ok_law_told X).mono (by decide)) ((ok_law_is_meadow X).mono (by decide)) ((ok_law_bent X 40).mono (by decide)) ((ok_law_due X).mono (by decide)) ((ok_law_take X).mono (by decide)) ((ok_law_shuts X).mono (by decide)) ((ok_law_meadow X).mono (by decide)) ((ok_law_pot X).mono (by decide)) ((ok_law_cell_at X).mono (by decide)))
end
open PySem PySem.W PySem.Calls PyProof.Rows in
theorem holds_of (pure_law : ∀ ns : List Int, ns.length ≤ 63 → ∃ h', F_law [.scr ns] [] = .ok (.bl true, false) h') : PySem.Challenge.rw_downrings_k02_open_minutes.Holds := by
  w_on; o_law
  refine HandSHeadRun.head_any (r := OpenLaw.row PySem.Challenge.rw_downrings_k02_open_minutes) (q := view (OpenLaw.row PySem.Challenge.rw_downrings_k02_open_minutes).prog [51]) (H := hk) (ob := ob) (M := 12000) (loose := loose) (d := HandSHeadRun.topDef (OpenLaw.row PySem.Challenge.rw_downrings_k02_open_minutes).prog 51) (kwd := []) ob_eq
    (by kernel_rfl) (fun s => by kernel_rfl) run (by kernel_rfl) (by kernel_rfl) (by kernel_rfl) (by rfl) (by first | assumption | decide +kernel) (by decide +kernel) ⟨rfl, rfl, rfl, rfl, rfl, by decide +kernel⟩ ?hw ?hc
  case hw => w_witness2
  case hc =>
    refine Dd.end_law (l := PySem.Challenge.rw_downrings_k02_open_minutes) (n := 63) (k := 43) (x := "_law_script") (FD := F_law) rfl (by decide) (by kernel_rfl) ⟨rfl, by decide, by decide⟩ pure_law ?F
    intro w mg fa h Y G hmg0
    obtain ⟨⟨K, KX, c, hx⟩, hsys⟩ := Y
    have hmg : mg ("law" : PySem.Str) = some (.ref fa) := by
      have e : (HandSHeadRun.topDef (OpenLaw.row PySem.Challenge.rw_downrings_k02_open_minutes).prog 51).name = ("law" : PySem.Str) := by kernel_rfl
      rw [← e]
      exact hmg0
    obtain ⟨fd, F⟩ := c.def_ 26 (d := d_law) rfl
    have e := hmg.symm.trans (He.glo_ok KX G (c.fact 26 (f := .glo "law") rfl))
    cases e
    exact ⟨K, fd, xcOf K, KX, hsys, fun s u => F.bindsA pl_law s [u] rfl, fun base _ G' hs => ok_law (fx_of KX G c hx hs) F⟩
end LW

/-! plain: the pot, small looks -/
namespace LW
open Dd
def hp (h : CH) (l : Nat) (n : Int) : CH := h.set l (.lst [.int n])
@[simp] theorem hp_get {h : CH} {l : Nat} {n : Int} (hl : l < h.length) : (hp h l n)[l]? = some (.lst [.int n]) := by
  unfold hp; simp [hl]
@[simp] theorem hp_deref {h : CH} {l : Nat} {n : Int} (hl : l < h.length) : derefD (hp h l n) (.ref l) = .lst [.int n] := deref_ref (hp_get hl)
@[simp] theorem hp_set {h : CH} {l : Nat} {n m : Int} : (hp h l n).set l (.lst [.int m]) = hp h l m := by
  unfold hp; simp
theorem take_eq {h : CH} {l : Nat} {n far : Int} (hl : l < h.length) (hf : 0 < far) (hf2 : far < 1073741824) : F_law_take [.ref l, .int far] (hp h l n) = .ok (.int (n % far), false) (hp h l (n / far)) := by
  simp [F_law_take, b_law_take, fnOf, Dd.execs, Dd.exec, ev, evs, evo, evp, evc, evi, evf, rdAll, Opd.rd, Opd.raw, Slots.val, Slots.loose, Slots.owns, P.app, tgt, tgts, setAll, wipeD, backD, selF, aAdd, aSub, aMul, aFdiv, aMod, aPow, aNeg, aEq, aNe, aLt, aLe, aGt, aGe, aIs_, aIsnt, aIn_, aNin, aIx, aLen, aAll, aAny, aTuple, aList, aSum, aMax2, aMin2, aMax1, aMin1, aInt, aRepr, aIsi, isiD, isiB, chg, setX, ixD, getI, hl, hf, hf2]
def isW : D → Bool
  | .int _ => true
  | _ => false
theorem pure_tup {xs : List D} (h : D.pure (.tup xs) = true) : ∀ x ∈ xs, D.pure x = true := by
  have h : D.pures xs = true := h
  rw [D.pures_all] at h
  exact List.all_eq_true.mp h
theorem whole_eq {x : D} {h : CH} (hx : x.pure = true) : F_is_whole [x] h = .ok (.bl (isW x), false) h := by
  cases x <;> first | rfl | cases hx
theorem whole_eq2 {x : D} {h : CH} (hx : x.pure = true) : F_law_whole [x] h = .ok (.bl (isW x), false) h := by
  cases x <;> first | rfl | cases hx
def isIn (lo hi : Int) : D → Bool
  | .int i => decide (lo ≤ i) && decide (i ≤ hi)
  | _ => false
theorem within_eq {x : D} {lo hi : Int} {h : CH} (hx : x.pure = true) : F_is_within [x, .int lo, .int hi] h = .ok (.bl (isIn lo hi x), false) h := by
  cases x <;> try (first | rfl | cases hx)
  rename_i i
  by_cases q : lo ≤ i <;> simp [F_is_within, b_is_within, fnOf, Dd.execs, Dd.exec, ev, evs, evo, evp, evc, evi, evf, rdAll, Opd.rd, Opd.raw, Slots.val, Slots.loose, Slots.owns, P.app, tgt, tgts, setAll, wipeD, backD, selF, aLe, whole_eq (x := .int i) rfl, isW, isIn, q]
theorem within_eq2 {x : D} {lo hi : Int} {h : CH} (hx : x.pure = true) : F_law_within [x, .int lo, .int hi] h = .ok (.bl (isIn lo hi x), false) h := by
  cases x <;> try (first | rfl | cases hx)
  rename_i i
  by_cases q : lo ≤ i <;> simp [F_law_within, b_law_within, fnOf, Dd.execs, Dd.exec, ev, evs, evo, evp, evc, evi, evf, rdAll, Opd.rd, Opd.raw, Slots.val, Slots.loose, Slots.owns, P.app, tgt, tgts, setAll, wipeD, backD, selF, aLe, whole_eq2 (x := .int i) rfl, isW, isIn, q]
theorem minute_eq {x : D} {h : CH} (hx : x.pure = true) : F_is_minute [x] h = .ok (.bl (isIn 0 9999 x), false) h := by
  simp [F_is_minute, b_is_minute, fnOf, Dd.execs, Dd.exec, ev, evs, evo, evp, evc, evi, evf, rdAll, Opd.rd, Opd.raw, Slots.val, Slots.loose, Slots.owns, P.app, tgt, tgts, setAll, wipeD, backD, selF, within_eq hx]
theorem comp_map {turn : D → Sta → Out Sta (Option D)} {s0 : Sta} (f : D → D) : ∀ {ds acc : List D}, (∀ d ∈ ds, turn d s0 = .ok (some (f d)) s0) → compL turn ds acc s0 = .ok (acc ++ ds.map f) s0
  | [], acc, _ => by simp [compL]
  | d :: ds, acc, h => by
    simp [compL, h d List.mem_cons_self, comp_map f (ds := ds) (acc := acc ++ [f d]) fun e he => h e (List.mem_cons_of_mem _ he)]
theorem bls_map (p : D → Bool) : ∀ xs : List D, allM D.bl? (xs.map fun d => D.bl (p d)) = some (xs.map p)
  | [] => rfl
  | x :: xs => by simp [allM, D.bl?, bls_map p xs]
theorem all_map {p : D → Bool} {xs : List D} : aAll [.lst (xs.map fun d => D.bl (p d))] = some (.bl (xs.all p), false) := by
  simp [aAll, bls_map, List.all_map]
def rowOk (k : Int) : D → Bool
  | .tup xs => decide ((xs.length : Int) = k) && xs.all (isIn 1 99)
  | _ => false
theorem eqD_int {i j : Int} : eqD (.int i) (.int j) = some (decide (i = j)) := rfl
theorem row_eq {x : D} {k : Int} {h : CH} (hx : x.pure = true) : F_is_row [x, .int k] h = .ok (.bl (rowOk k x), false) h := by
  cases x <;> try (first | rfl | cases hx)
  rename_i xs
  by_cases q : (xs.length : Int) = k
  · simp [F_is_row, b_is_row, k_is_row_0, fnOf, Dd.execs, Dd.exec, ev, evs, evo, evp, evc, evi, evf, rdAll, Opd.rd, Opd.raw, Slots.val, Slots.loose, Slots.owns, P.app, tgt, tgts, setAll, wipeD, backD, selF, aIsi, isiD, isiB, aNe, aLen, eqD_int, rowOk, q, itemsOf]
    rw [comp_map (f := fun d => .bl (isIn 1 99 d)) (by
      intro d hd
      simp [tgt, within_eq (pure_tup hx d hd), wipeD])]
    simp [fnOf, Dd.execs, Dd.exec, ev, evs, evo, evp, evc, evi, evf, rdAll, Opd.rd, Opd.raw, Slots.val, Slots.loose, Slots.owns, P.app, tgt, tgts, setAll, wipeD, backD, selF, all_map]
  · simp [F_is_row, b_is_row, fnOf, Dd.execs, Dd.exec, ev, evs, evo, evp, evc, evi, evf, rdAll, Opd.rd, Opd.raw, Slots.val, Slots.loose, Slots.owns, P.app, tgt, tgts, setAll, wipeD, backD, selF, aIsi, isiD, isiB, aNe, aLen, eqD_int, rowOk, q]
end LW

/-! plain: gaps -/
namespace LW
open Dd
/-- a square of ints -/
abbrev Mat := List (List Int)
def rowD (r : List Int) : D := .tup (r.map .int)
def matD (M : Mat) : D := .tup (M.map rowD)
def sq (M : Mat) : Prop := ∀ r ∈ M, r.length = M.length
def cell (M : Mat) (i j : Nat) : Int := ((M[i]?.getD [])[j]?).getD 0
theorem int_of {r : List Int} {i : Nat} {d : D} (h : (r.map D.int)[i]? = some d) : ∃ x, r[i]? = some x ∧ d = .int x := by
  rw [List.getElem?_map] at h
  cases q : r[i]? with
  | none => rw [q] at h; cases h
  | some x => rw [q] at h; cases h; exact ⟨x, rfl, rfl⟩
theorem cell_at {M : Mat} (hs : sq M) {i j : Nat} (hi : i < M.length) (hj : j < M.length) : ∃ r, M[i]? = some r ∧ r[j]? = some (cell M i j) := by
  refine ⟨M[i], by simp [hi], ?_⟩
  have hl : (M[i]).length = M.length := hs _ (List.getElem_mem hi)
  unfold cell
  simp [hi, hl, hj]
theorem mem_enum {r : List Int} {d : D} (h : d ∈ enumD 0 (r.map D.int)) : ∃ (i : Nat) (x : Int), r[i]? = some x ∧ d = .tup [.int (i : Int), .int x] := by
  obtain ⟨i, hi, e⟩ := List.getElem_of_mem h
  obtain ⟨x, h1, h2⟩ := enumD_get (k := 0) (xs := r.map D.int) (i := i) (d := d) (by rw [List.getElem?_eq_getElem hi, e])
  obtain ⟨z, h3, h4⟩ := int_of h1
  exact ⟨i, z, h3, by rw [h2, h4, Nat.zero_add]⟩
def pIn (M : Mat) (b : Nat) (x : Int) : D → Bool
  | .tup [.int l, .int y] => decide (¬ (x + cell M b l.toNat < y))
  | _ => true
def pMid (M : Mat) (row : List D) : D → Bool
  | .tup [.int b, .int x] => (enumD 0 row).all (pIn M b.toNat x)
  | _ => true
def pOut (M : Mat) : D → Bool
  | .tup row => (enumD 0 row).all (pMid M row)
  | _ => true
def strB (M : Mat) : Bool := (M.map rowD).all (pOut M)
@[simp] theorem deref_mat {M : Mat} {h : CH} : derefD h (matD M) = matD M := rfl
@[simp] theorem deref_row {r : List Int} {h : CH} : derefD h (rowD r) = rowD r := rfl
theorem ix_mat {M : Mat} {i : Nat} {r : List Int} (h : M[i]? = some r) : aIx [matD M, .int (i : Int)] = some (rowD r, false) := ix_tup (by simp [h])
theorem ix_row {r : List Int} {i : Nat} {x : Int} (h : r[i]? = some x) : aIx [rowD r, .int (i : Int)] = some (.int x, false) := ix_tup (by simp [h])
theorem straight_wp {M : Mat} {h : CH} (hs : sq M) : WP (F_are_straight [matD M] h) fun a h' => a = (.bl (strB M), false) ∧ h' = h := by
  refine WP_def rfl (WP_cons (WP_fr ?_))
  show WP (forL (turnF [1] true _) (M.map rowD) ⟨[some (matD M, false), none, none, none, none, none], h⟩) _
  refine WP_forp (fun s => ∃ a b c d e, s = ⟨[some (matD M, false), a, b, c, d, e], h⟩) (pOut M) (.bl false) false ⟨_, _, _, _, _, rfl⟩ ?_ ?_ ?_
  · rintro d hd s ⟨a, b, c, d4, e, rfl⟩
    obtain ⟨r, hr, rfl⟩ := List.mem_map.mp hd
    have hrl := hs r hr
    refine WP_turn ⟨_, rfl, WP_cons (WP_fr ?_)⟩
    show WP (forL (turnF [2, 3] false _) (enumD 0 (r.map .int)) ⟨[some (matD M, false), some (rowD r, false), b, c, d4, e], h⟩) _
    refine WP_forp (fun s => ∃ a b c d, s = ⟨[some (matD M, false), some (rowD r, false), a, b, c, d], h⟩) (pMid M (r.map .int)) (.bl false) false ⟨_, _, _, _, rfl⟩ ?_ ?_ ?_
    · rintro d hd s ⟨a, b, c, d4, rfl⟩
      obtain ⟨i, x, hx, rfl⟩ := mem_enum hd
      have hi : i < M.length := by rw [← hrl]; exact (List.getElem?_eq_some_iff.mp hx).1
      refine WP_turn ⟨_, rfl, WP_cons (WP_fr ?_)⟩
      show WP (forL (turnF [4, 5] false _) (enumD 0 (r.map .int)) ⟨[some (matD M, false), some (rowD r, false), some (.int (i : Int), false), some (.int x, false), c, d4], h⟩) _
      refine WP_forp (fun s => ∃ c d, s = ⟨[some (matD M, false), some (rowD r, false), some (.int (i : Int), false), some (.int x, false), c, d], h⟩) (pIn M i x) (.bl false) false ⟨_, _, rfl⟩ ?_ ?_ ?_
      · rintro d hd s ⟨c, d4, rfl⟩
        obtain ⟨j, y, hy, rfl⟩ := mem_enum hd
        have hj : j < M.length := by rw [← hrl]; exact (List.getElem?_eq_some_iff.mp hy).1
        obtain ⟨r2, er, ec⟩ := cell_at hs hi hj
        refine WP_turn ⟨_, rfl, WP_cons (WP_ite ?_)⟩
        by_cases q : x + cell M i j < y <;> simp [ev, evs, evo, evp, evc, evi, evf, rdAll, Opd.rd, Opd.raw, Slots.val, Slots.loose, Slots.owns, P.app, tgt, tgts, setAll, wipeD, backD, selF, itemsOf, aAdd, aGt, ix_mat er, ix_row ec, q, pIn, execs, exec]
      · rintro s ⟨c, d4, rfl⟩ q
        exact ⟨⟨_, _, _, _, rfl⟩, by rw [show pMid M (r.map .int) (.tup [.int (i : Int), .int x]) = true from q]; rfl⟩
      · rintro s ⟨c, d4, rfl⟩ q
        exact ⟨⟨_, _, _, _, rfl⟩, by rw [show pMid M (r.map .int) (.tup [.int (i : Int), .int x]) = false from q]; rfl⟩
    · rintro s ⟨a, b, c, d4, rfl⟩ q
      exact ⟨⟨_, _, _, _, _, rfl⟩, by rw [show pOut M (rowD r) = true from q]; rfl⟩
    · rintro s ⟨a, b, c, d4, rfl⟩ q
      exact ⟨⟨_, _, _, _, _, rfl⟩, by rw [show pOut M (rowD r) = false from q]; rfl⟩
  · rintro s ⟨a, b, c, d4, e, rfl⟩ q
    have q : strB M = true := q
    simp [execs, exec, ev, q]
  · rintro s ⟨a, b, c, d4, e, rfl⟩ q
    have q : strB M = false := q
    simp [q]
end LW

/-! plain: the program's look at a meadow -/
namespace LW
open Dd
theorem WP_eq {σ α : Type} {o : Out σ α} {a : α} {s : σ} (h : WP o fun a' s' => a' = a ∧ s' = s) : o = .ok a s := by
  obtain ⟨a', s', e, rfl, rfl⟩ := WP_ex h
  exact e
theorem straight_eq {M : Mat} {h : CH} (hs : sq M) : F_are_straight [matD M] h = .ok (.bl (strB M), false) h := WP_eq (straight_wp hs)
def rowOf : D → Option (List Int)
  | .tup xs => allM D.int? xs
  | _ => none
theorem ints_of : ∀ {xs : List D}, xs.all (isIn 1 99) = true → ∃ r : List Int, xs = r.map .int ∧ allM D.int? xs = some r
  | [], _ => ⟨[], rfl, rfl⟩
  | x :: xs, h => by
    rw [List.all_cons, Bool.and_eq_true] at h
    obtain ⟨r, e1, e2⟩ := ints_of h.2
    cases x <;> try (cases h.1; done)
    rename_i i
    exact ⟨i :: r, by rw [e1]; rfl, by simp [allM, D.int?, e2]⟩
theorem mat_of : ∀ {xs : List D} {k : Int}, xs.all (rowOk k) = true → ∃ M : Mat, xs = M.map rowD ∧ allM rowOf xs = some M ∧ ∀ r ∈ M, (r.length : Int) = k
  | [], _, _ => ⟨[], rfl, rfl, fun _ z => nomatch z⟩
  | x :: xs, k, h => by
    rw [List.all_cons, Bool.and_eq_true] at h
    obtain ⟨M, e1, e2, e3⟩ := mat_of h.2
    cases x <;> try (cases h.1; done)
    rename_i ys
    have h1 : (decide ((ys.length : Int) = k) && ys.all (isIn 1 99)) = true := h.1
    rw [Bool.and_eq_true] at h1
    obtain ⟨r, e4, e5⟩ := ints_of h1.2
    have hl := of_decide_eq_true h1.1
    refine ⟨r :: M, by rw [e1, e4]; rfl, by simp [allM, rowOf, e5, e2], fun q hq => ?_⟩
    rcases List.mem_cons.mp hq with z | z
    · rw [z, ← hl, e4, List.length_map]
    · exact e3 q z
def strD (xs : List D) : Bool := match allM rowOf xs with
  | some M => strB M
  | none => false
def gapsOk : D → Bool
  | .tup xs => decide (1 ≤ (xs.length : Int)) && decide ((xs.length : Int) ≤ 4) && xs.all (rowOk xs.length) && strD xs
  | _ => false
theorem gaps_eq {x : D} {h : CH} (hx : x.pure = true) : F_are_gaps [x] h = .ok (.bl (gapsOk x), false) h := by
  cases x <;> try (first | rfl | cases hx)
  rename_i xs
  have body : (1 ≤ (xs.length : Int)) → ((xs.length : Int) ≤ 4) → WP (F_are_gaps [.tup xs] h) fun a h' => a = (.bl (gapsOk (.tup xs)), false) ∧ h' = h := by
    intro q1 q2
    refine WP_def rfl (WP_cons (WP_ite ?_))
    simp [ev, evs, evo, evp, evc, evi, evf, rdAll, Opd.rd, Opd.raw, Slots.val, Slots.loose, Slots.owns, P.app, tgt, tgts, setAll, wipeD, backD, selF, itemsOf, aAdd, aSub, aMul, aFdiv, aMod, aPow, aNeg, aEq, aNe, aLt, aLe, aGt, aGe, aIs_, aIsnt, aIn_, aNin, aIx, aLen, aAll, aAny, aTuple, aList, aSum, aMax2, aMin2, aMax1, aMin1, aInt, aRepr, aIsi, isiD, isiB, q1, q2]
    refine WP_cons (WP_ret (fun _ z => nomatch z) ?_)
    have ec : ev k_are_gaps_0 ⟨[some (.tup xs, false), none], h⟩ = .ok (.lst (xs.map fun d => .bl (rowOk xs.length d)), true) ⟨[some (.tup xs, false), none], h⟩ := by
      refine WP_eq (WP_compf (fun d => .bl (rowOk xs.length d)) ?_)
      simp [ev, evs, evo, evp, evc, evi, evf, rdAll, Opd.rd, Opd.raw, Slots.val, Slots.loose, Slots.owns, P.app, tgt, tgts, setAll, wipeD, backD, selF, itemsOf]
      intro d hd
      simp [ev, evs, evo, evp, evc, evi, evf, rdAll, Opd.rd, Opd.raw, Slots.val, Slots.loose, Slots.owns, P.app, tgt, tgts, setAll, wipeD, backD, selF, itemsOf, aLen, row_eq (pure_tup hx d hd)]
    have ea : aAll [.lst (xs.map fun d => .bl (rowOk xs.length d))] = some (.bl (xs.all (rowOk xs.length)), false) := all_map
    by_cases q3 : xs.all (rowOk xs.length) = true
    · obtain ⟨M, e1, e2, e3⟩ := mat_of q3
      have hs : sq M := fun r hr => by
        have z := e3 r hr
        rw [e1, List.length_map] at z
        exact Int.ofNat.inj z
      have es : F_are_straight [.tup xs] h = .ok (.bl (strB M), false) h := by
        rw [e1]
        exact straight_eq hs
      have eg : gapsOk (.tup xs) = strB M := by simp [gapsOk, q1, q2, q3, strD, e2]
      simp [ev, evo, ec, rdAll, Opd.rd, Opd.raw, P.app, ea, q3, evs, Slots.val, Slots.loose, es, eg]
    · have q3 : xs.all (rowOk xs.length) = false := Bool.eq_false_iff.mpr q3
      have eg : gapsOk (.tup xs) = false := by simp [gapsOk, q3]
      simp [ev, evo, ec, rdAll, Opd.rd, Opd.raw, P.app, ea, q3, eg]
  by_cases q1 : 1 ≤ (xs.length : Int)
  · by_cases q2 : (xs.length : Int) ≤ 4
    · exact WP_eq (body q1 q2)
    · refine WP_eq (WP_def rfl (WP_cons (WP_ite ?_)))
      simp [ev, evs, evo, evp, evc, evi, evf, rdAll, Opd.rd, Opd.raw, Slots.val, Slots.loose, Slots.owns, P.app, tgt, tgts, setAll, wipeD, backD, selF, itemsOf, aAdd, aSub, aMul, aFdiv, aMod, aPow, aNeg, aEq, aNe, aLt, aLe, aGt, aGe, aIs_, aIsnt, aIn_, aNin, aIx, aLen, aAll, aAny, aTuple, aList, aSum, aMax2, aMin2, aMax1, aMin1, aInt, aRepr, aIsi, isiD, isiB, q1, q2, execs, exec, gapsOk]
  · refine WP_eq (WP_def rfl (WP_cons (WP_ite ?_)))
    simp [ev, evs, evo, evp, evc, evi, evf, rdAll, Opd.rd, Opd.raw, Slots.val, Slots.loose, Slots.owns, P.app, tgt, tgts, setAll, wipeD, backD, selF, itemsOf, aAdd, aSub, aMul, aFdiv, aMod, aPow, aNeg, aEq, aNe, aLt, aLe, aGt, aGe, aIs_, aIsnt, aIn_, aNin, aIx, aLen, aAll, aAny, aTuple, aList, aSum, aMax2, aMin2, aMax1, aMin1, aInt, aRepr, aIsi, isiD, isiB, q1, execs, exec, gapsOk]
def strechOk : D → Bool
  | .tup [x, y] => isIn 0 9999 x && (isIn 0 9999 y && match x, y with
    | .int u, .int v => decide (u < v)
    | _, _ => false)
  | _ => false
theorem isIn_int {lo hi : Int} {x : D} (h : isIn lo hi x = true) : ∃ i, x = .int i ∧ lo ≤ i ∧ i ≤ hi := by
  cases x <;> try (cases h; done)
  rename_i i
  have h : (decide (lo ≤ i) && decide (i ≤ hi)) = true := h
  rw [Bool.and_eq_true] at h
  exact ⟨i, rfl, of_decide_eq_true h.1, of_decide_eq_true h.2⟩
theorem stretch_eq {x : D} {h : CH} (hx : x.pure = true) : F_is_stretch [x] h = .ok (.bl (strechOk x), false) h := by
  cases x <;> try (first | rfl | cases hx)
  rename_i xs
  match xs, hx with
  | [], _ => rfl
  | [_], _ => rfl
  | a :: b :: c :: r, _ =>
    refine WP_eq (WP_def rfl (WP_cons (WP_ite ?_)))
    have : ¬ ((r.length : Int) + 1 + 1 + 1 = 2) := by omega
    simp [ev, evs, evo, evp, evc, evi, evf, rdAll, Opd.rd, Opd.raw, Slots.val, Slots.loose, Slots.owns, P.app, tgt, tgts, setAll, wipeD, backD, selF, itemsOf, aAdd, aSub, aMul, aFdiv, aMod, aPow, aNeg, aEq, aNe, aLt, aLe, aGt, aGe, aIs_, aIsnt, aIn_, aNin, aIx, aLen, aAll, aAny, aTuple, aList, aSum, aMax2, aMin2, aMax1, aMin1, aInt, aRepr, aIsi, isiD, isiB, eqD_int, this, execs, exec, strechOk]
  | [a, b], hx =>
    have ha : a.pure = true := pure_tup hx a (by simp)
    have hb : b.pure = true := pure_tup hx b (by simp)
    have i0 : aIx [.tup [a, b], .int 0] = some (a, false) := rfl
    have i1 : aIx [.tup [a, b], .int 1] = some (b, false) := rfl
    refine WP_eq (WP_def rfl (WP_cons (WP_ite ?_)))
    by_cases q1 : isIn 0 9999 a = true
    · by_cases q2 : isIn 0 9999 b = true
      · obtain ⟨u, rfl, _⟩ := isIn_int q1
        obtain ⟨v, rfl, _⟩ := isIn_int q2
        simp [ev, evs, evo, evp, evc, evi, evf, rdAll, Opd.rd, Opd.raw, Slots.val, Slots.loose, Slots.owns, P.app, tgt, tgts, setAll, wipeD, backD, selF, itemsOf, aIsi, isiD, isiB, aNe, aLen, aLt, eqD_int, i0, i1, minute_eq ha, minute_eq hb, q1, q2, strechOk, execs, exec]
      · simp [ev, evs, evo, evp, evc, evi, evf, rdAll, Opd.rd, Opd.raw, Slots.val, Slots.loose, Slots.owns, P.app, tgt, tgts, setAll, wipeD, backD, selF, itemsOf, aIsi, isiD, isiB, aNe, aLen, aLt, eqD_int, i0, i1, minute_eq ha, minute_eq hb, q1, q2, strechOk, execs, exec]
    · simp [ev, evs, evo, evp, evc, evi, evf, rdAll, Opd.rd, Opd.raw, Slots.val, Slots.loose, Slots.owns, P.app, tgt, tgts, setAll, wipeD, backD, selF, itemsOf, aIsi, isiD, isiB, aNe, aLen, aLt, eqD_int, i0, i1, minute_eq ha, minute_eq hb, q1, strechOk, execs, exec]
end LW

/-! plain: shut stretches, the program's look at a whole meadow -/
namespace LW
open Dd
def stD (p : Int × Int) : D := .tup [.int p.1, .int p.2]
theorem sts_of : ∀ {xs : List D}, xs.all strechOk = true → ∃ ps : List (Int × Int), xs = ps.map stD ∧ ∀ p ∈ ps, 0 ≤ p.1 ∧ p.1 ≤ 9999 ∧ 0 ≤ p.2 ∧ p.2 ≤ 9999 ∧ p.1 < p.2
  | [], _ => ⟨[], rfl, fun _ z => nomatch z⟩
  | x :: xs, h => by
    rw [List.all_cons, Bool.and_eq_true] at h
    obtain ⟨ps, e1, e2⟩ := sts_of h.2
    have h1 := h.1
    unfold strechOk at h1
    split at h1
    · rename_i a b
      rw [Bool.and_eq_true, Bool.and_eq_true] at h1
      obtain ⟨h2, h3, h4⟩ := h1
      obtain ⟨u, rfl, u1, u2⟩ := isIn_int h2
      obtain ⟨v, rfl, v1, v2⟩ := isIn_int h3
      have h4 := of_decide_eq_true h4
      refine ⟨(u, v) :: ps, by rw [e1]; rfl, fun p hp => ?_⟩
      rcases List.mem_cons.mp hp with z | z
      · rw [z]; exact ⟨u1, u2, v1, v2, h4⟩
      · exact e2 p z
    · cases h1
/-- each begins behind the end of the one ahead -/
def adjB : List (Int × Int) → Bool
  | p :: q :: r => decide (p.2 < q.1) && adjB (q :: r)
  | _ => true
def adjD (xs : List D) : Bool := match allM D.pair? xs with
  | some ps => adjB ps
  | none => false
theorem pairs_map : ∀ ps : List (Int × Int), allM D.pair? (ps.map stD) = some ps
  | [] => rfl
  | p :: ps => by
    rw [List.map_cons]
    unfold allM
    rw [pairs_map ps]
    rfl
def shutsOk : D → Bool
  | .tup xs => decide ((xs.length : Int) ≤ 4) && (xs.all strechOk && adjD xs)
  | _ => false
def gapAt (ps : List (Int × Int)) (k : Nat) : Bool := match ps[k]?, ps[k + 1]? with
  | some p, some q => decide (p.2 < q.1)
  | _, _ => false
theorem adj_all : ∀ ps : List (Int × Int), (List.range (ps.length - 1)).all (gapAt ps) = adjB ps
  | [] => rfl
  | [_] => rfl
  | p :: q :: r => by
    have e : (p :: q :: r).length - 1 = ((q :: r).length - 1) + 1 := by simp
    rw [e, List.range_succ_eq_map, List.all_cons, List.all_map]
    have ih := adj_all (q :: r)
    have e2 : (gapAt (p :: q :: r) ∘ Nat.succ) = gapAt (q :: r) := by
      funext k
      simp [gapAt]
    rw [e2, ih]
    simp [gapAt, adjB]
theorem rng_map {ps : List (Int × Int)} (f : D → D) (hf : ∀ k : Nat, f (.int (1 + (k : Int))) = .bl (gapAt ps k)) : (rngL 1 (ps.length - 1)).map f = (List.range (ps.length - 1)).map fun k => D.bl (gapAt ps k) := by
  unfold rngL
  rw [List.map_map]
  refine List.map_congr_left fun k _ => ?_
  exact hf k
theorem bls_of {α : Type} (p : α → Bool) : ∀ xs : List α, allM D.bl? (xs.map fun d => D.bl (p d)) = some (xs.map p)
  | [] => rfl
  | x :: xs => by
    rw [List.map_cons]
    unfold allM
    rw [bls_of p xs]
    rfl
theorem all_of {α : Type} {p : α → Bool} {xs : List α} : aAll [.lst (xs.map fun d => D.bl (p d))] = some (.bl (xs.all p), false) := by
  show (allM D.bl? (xs.map fun d => D.bl (p d))).map _ = _
  rw [bls_of]
  simp [List.all_map]
theorem st_ix {ps : List (Int × Int)} {k : Nat} {p : Int × Int} (h : ps[k]? = some p) : aIx [.tup (ps.map stD), .int (k : Int)] = some (stD p, false) := ix_tup (by simp [h])
@[simp] theorem st_0 {p : Int × Int} : aIx [stD p, .int 0] = some (.int p.1, false) := rfl
@[simp] theorem st_1 {p : Int × Int} : aIx [stD p, .int 1] = some (.int p.2, false) := rfl
@[simp] theorem deref_st {p : Int × Int} {h : CH} : derefD h (stD p) = stD p := rfl
theorem shuts_eq {x : D} {h : CH} (hx : x.pure = true) : F_are_shuts [x] h = .ok (.bl (shutsOk x), false) h := by
  cases x <;> try (first | rfl | cases hx)
  rename_i xs
  by_cases q1 : (xs.length : Int) ≤ 4
  · have ec : ev k_are_shuts_1 ⟨[some (.tup xs, false), none, none], h⟩ = .ok (.lst (xs.map fun d => .bl (strechOk d)), true) ⟨[some (.tup xs, false), none, none], h⟩ := by
      refine WP_eq (WP_compf (fun d => .bl (strechOk d)) ?_)
      simp [ev, evs, evo, evp, evc, evi, evf, rdAll, Opd.rd, Opd.raw, Slots.val, Slots.loose, Slots.owns, P.app, tgt, tgts, setAll, wipeD, backD, selF, itemsOf]
      intro d hd
      simp [ev, evs, evo, evp, evc, evi, evf, rdAll, Opd.rd, Opd.raw, Slots.val, Slots.loose, Slots.owns, P.app, tgt, tgts, setAll, wipeD, backD, selF, itemsOf, stretch_eq (pure_tup hx d hd)]
    have ea : aAll [.lst (xs.map fun d => D.bl (strechOk d))] = some (.bl (xs.all strechOk), false) := all_map
    have hq : ¬ (4 < (xs.length : Int)) := by omega
    by_cases q2 : xs.all strechOk = true
    · obtain ⟨ps, e1, e2⟩ := sts_of q2
      have hl : xs.length = ps.length := by rw [e1, List.length_map]
      have eg : shutsOk (.tup xs) = adjB ps := by
        have : adjD xs = adjB ps := by rw [e1]; unfold adjD; rw [pairs_map]
        simp [shutsOk, q1, q2, this]
      let f : D → D := fun d => match d with
        | .int i => .bl (gapAt ps (i - 1).toNat)
        | _ => .non
      have e0 : ev k_are_shuts_0 ⟨[some (.tup xs, false), none, none], h⟩ = .ok (.lst ((rngL 1 (ps.length - 1)).map f), true) ⟨[some (.tup xs, false), none, none], h⟩ := by
        have hr : okRng 1 (xs.length : Int) = true := by
          unfold okRng
          refine decide_eq_true ?_
          omega
        have en : ((xs.length : Int) - 1).toNat = ps.length - 1 := by omega
        refine WP_eq (WP_compf f ?_)
        simp [ev, evs, evo, evp, evc, evi, evf, rdAll, Opd.rd, Opd.raw, Slots.val, Slots.loose, Slots.owns, P.app, tgt, tgts, setAll, wipeD, backD, selF, itemsOf, aLen, hr, en]
        intro d hd
        unfold rngL at hd
        obtain ⟨k, hk, rfl⟩ := List.mem_map.mp hd
        have hk := List.mem_range.mp hk
        have ha : k < ps.length := by omega
        have hb : k + 1 < ps.length := by omega
        have e3 : ps[k]? = some ps[k] := by simp [ha]
        have e4 : ps[k + 1]? = some ps[k + 1] := by simp [hb]
        have i1 : aIx [.tup xs, .int (1 + (k : Int))] = some (stD ps[k + 1], false) := by
          have z := st_ix e4
          rw [← e1] at z
          have ez : ((k + 1 : Nat) : Int) = 1 + (k : Int) := by omega
          rw [ez] at z
          exact z
        have i2 : aIx [.tup xs, .int (k : Int)] = some (stD ps[k], false) := by
          have z := st_ix e3
          rw [← e1] at z
          exact z
        have i3 : (1 + (k : Int)) - 1 = (k : Int) := by omega
        have ef : f (.int (1 + (k : Int))) = .bl (decide (ps[k].2 < ps[k + 1].1)) := by
          show D.bl (gapAt ps ((1 + (k : Int)) - 1).toNat) = _
          rw [i3]
          simp [gapAt, e3, e4]
        simp [ev, evs, evo, evp, evc, evi, evf, rdAll, Opd.rd, Opd.raw, Slots.val, Slots.loose, Slots.owns, P.app, tgt, tgts, setAll, wipeD, backD, selF, itemsOf, i1, i2, i3, aSub, aGt, ef]
      have e5 : (rngL 1 (ps.length - 1)).map f = (List.range (ps.length - 1)).map fun k => D.bl (gapAt ps k) := rng_map f fun k => by
        show D.bl (gapAt ps ((1 + (k : Int)) - 1).toNat) = _
        have i3 : (1 + (k : Int)) - 1 = (k : Int) := by omega
        rw [i3]
        rfl
      rw [e5] at e0
      have ea2 : aAll [.lst ((List.range (ps.length - 1)).map fun k => D.bl (gapAt ps k))] = some (.bl (adjB ps), false) := by rw [all_of, adj_all]
      refine WP_eq (WP_def rfl (WP_cons (WP_ite ?_)))
      simp [ev, evs, evo, evp, evc, evi, evf, rdAll, Opd.rd, Opd.raw, Slots.val, Slots.loose, Slots.owns, P.app, tgt, tgts, setAll, wipeD, backD, selF, itemsOf, aIsi, isiD, isiB, aLen, aGt, hq, ec, ea, q2]
      refine WP_cons (WP_ret (fun _ z => nomatch z) ?_)
      simp [ev, evs, evo, evp, evc, evi, evf, rdAll, Opd.rd, Opd.raw, Slots.val, Slots.loose, Slots.owns, P.app, tgt, tgts, setAll, wipeD, backD, selF, itemsOf, e0, ea2, eg]
    · have q2 : xs.all strechOk = false := Bool.eq_false_iff.mpr q2
      refine WP_eq (WP_def rfl (WP_cons (WP_ite ?_)))
      simp [ev, evs, evo, evp, evc, evi, evf, rdAll, Opd.rd, Opd.raw, Slots.val, Slots.loose, Slots.owns, P.app, tgt, tgts, setAll, wipeD, backD, selF, itemsOf, aIsi, isiD, isiB, aLen, aGt, hq, ec, ea, q2, execs, exec, shutsOk]
  · have hq : 4 < (xs.length : Int) := by omega
    refine WP_eq (WP_def rfl (WP_cons (WP_ite ?_)))
    simp [ev, evs, evo, evp, evc, evi, evf, rdAll, Opd.rd, Opd.raw, Slots.val, Slots.loose, Slots.owns, P.app, tgt, tgts, setAll, wipeD, backD, selF, itemsOf, aIsi, isiD, isiB, aLen, aGt, hq, execs, exec, shutsOk, q1]
def meadowOk : D → Bool
  | .tup [a, b, c, d] => isIn 0 8 a && (isIn 0 60 b && (gapsOk c && shutsOk d))
  | _ => false
theorem len4 {xs : List D} (h : (xs.length : Int) = 4) : ∃ a b c d, xs = [a, b, c, d] := by
  match xs, h with
  | [a, b, c, d], _ => exact ⟨a, b, c, d, rfl⟩
theorem meadowOk_len {xs : List D} (h : ¬ (xs.length : Int) = 4) : meadowOk (.tup xs) = false := by
  unfold meadowOk
  split
  · rename_i heq
    cases heq
    exact absurd rfl h
  · rfl
theorem meadow_eq {x : D} {h : CH} (hx : x.pure = true) : F_is_meadow [x] h = .ok (.bl (meadowOk x), false) h := by
  cases x <;> try (first | rfl | cases hx)
  rename_i xs
  by_cases q1 : (xs.length : Int) = 4
  · obtain ⟨a, b, c, d, rfl⟩ := len4 q1
    have p := pure_tup hx
    have pa := p a (by simp)
    have pb := p b (by simp)
    have pc := p c (by simp)
    have pd := p d (by simp)
    have i0 : aIx [.tup [a, b, c, d], .int 0] = some (a, false) := rfl
    have i1 : aIx [.tup [a, b, c, d], .int 1] = some (b, false) := rfl
    have i2 : aIx [.tup [a, b, c, d], .int 2] = some (c, false) := rfl
    have i3 : aIx [.tup [a, b, c, d], .int 3] = some (d, false) := rfl
    refine WP_eq (WP_def rfl (WP_cons (WP_ite ?_)))
    simp [ev, evs, evo, evp, evc, evi, evf, rdAll, Opd.rd, Opd.raw, Slots.val, Slots.loose, Slots.owns, P.app, tgt, tgts, setAll, wipeD, backD, selF, itemsOf, aIsi, isiD, isiB, aLen, aNe, eqD_int]
    refine WP_cons (WP_ite ?_)
    by_cases qa : isIn 0 8 a = true
    · by_cases qb : isIn 0 60 b = true
      · by_cases qc : gapsOk c = true
        · simp [ev, evs, evo, evp, evc, evi, evf, rdAll, Opd.rd, Opd.raw, Slots.val, Slots.loose, Slots.owns, P.app, tgt, tgts, setAll, wipeD, backD, selF, itemsOf, execs, exec, i0, i1, i2, i3, within_eq pa, within_eq pb, gaps_eq pc, shuts_eq pd, qa, qb, qc, meadowOk]
        · simp [ev, evs, evo, evp, evc, evi, evf, rdAll, Opd.rd, Opd.raw, Slots.val, Slots.loose, Slots.owns, P.app, tgt, tgts, setAll, wipeD, backD, selF, itemsOf, execs, exec, i0, i1, i2, i3, within_eq pa, within_eq pb, gaps_eq pc, shuts_eq pd, qa, qb, qc, meadowOk]
      · simp [ev, evs, evo, evp, evc, evi, evf, rdAll, Opd.rd, Opd.raw, Slots.val, Slots.loose, Slots.owns, P.app, tgt, tgts, setAll, wipeD, backD, selF, itemsOf, execs, exec, i0, i1, within_eq pa, within_eq pb, qa, qb, meadowOk]
    · simp [ev, evs, evo, evp, evc, evi, evf, rdAll, Opd.rd, Opd.raw, Slots.val, Slots.loose, Slots.owns, P.app, tgt, tgts, setAll, wipeD, backD, selF, itemsOf, execs, exec, i0, i1, within_eq pa, within_eq pb, qa, meadowOk]
  · have e := meadowOk_len q1
    refine WP_eq (WP_def rfl (WP_cons (WP_ite ?_)))
    simp [ev, evs, evo, evp, evc, evi, evf, rdAll, Opd.rd, Opd.raw, Slots.val, Slots.loose, Slots.owns, P.app, tgt, tgts, setAll, wipeD, backD, selF, itemsOf, aIsi, isiD, isiB, aLen, aNe, eqD_int, q1, e, execs, exec]
end LW

/-! plain: the law's own look at a whole meadow -/
namespace LW
open Dd
theorem gaps_no {c : D} (h : ∀ cs, c = .tup cs → ¬ (1 ≤ (cs.length : Int) ∧ (cs.length : Int) ≤ 4)) : gapsOk c = false := by
  cases c with
  | tup cs =>
    have z := h cs rfl
    have e : (decide (1 ≤ (cs.length : Int)) && decide ((cs.length : Int) ≤ 4)) = false := by
      rw [Bool.eq_false_iff]
      intro q
      rw [Bool.and_eq_true] at q
      exact z ⟨of_decide_eq_true q.1, of_decide_eq_true q.2⟩
    simp only [gapsOk, e, Bool.false_and]
  | _ => rfl
/-- a stretch that may stand behind minute b -/
def beh (b : Int) : D → Bool
  | .tup [.int u, .int v] => decide (u < v) && decide (b < u)
  | _ => false
def endOf : D → Int
  | .tup [_, .int v] => v
  | _ => 0
def chn : Int → List D → Bool
  | _, [] => true
  | b, d :: r => strechOk d && (beh b d && chn (endOf d) r)
theorem chn_adj : ∀ (ps : List (Int × Int)) (b : Int), (∀ p ∈ ps, 0 ≤ p.1 ∧ p.1 ≤ 9999 ∧ 0 ≤ p.2 ∧ p.2 ≤ 9999 ∧ p.1 < p.2) → chn b (ps.map stD) = ((match ps with
    | [] => true
    | p :: _ => decide (b < p.1)) && adjB ps)
  | [], _, _ => rfl
  | p :: ps, b, h => by
    obtain ⟨h1, h2, h3, h4, h5⟩ := h p List.mem_cons_self
    have ih := chn_adj ps p.2 fun q hq => h q (List.mem_cons_of_mem _ hq)
    have e : chn b ((p :: ps).map stD) = (strechOk (stD p) && (beh b (stD p) && chn p.2 (ps.map stD))) := rfl
    have es : strechOk (stD p) = true := by simp [strechOk, stD, isIn, h1, h2, h3, h4, h5]
    have eb : beh b (stD p) = decide (b < p.1) := by simp [beh, stD, h5]
    rw [e, es, eb, ih]
    cases ps with
    | nil => simp [adjB]
    | cons q r => simp [adjB]
theorem chn_bad : ∀ (xs : List D) (b : Int), xs.all strechOk = false → chn b xs = false
  | [], _, h => by cases h
  | d :: r, b, h => by
    rw [List.all_cons] at h
    unfold chn
    by_cases q : strechOk d = true
    · rw [q, Bool.true_and] at h
      rw [chn_bad r _ h, Bool.and_false, Bool.and_false]
    · rw [Bool.eq_false_iff.mpr q]
      rfl
theorem chn_shuts {xs : List D} (h : (xs.length : Int) ≤ 4) : chn (-1) xs = shutsOk (.tup xs) := by
  by_cases q : xs.all strechOk = true
  · obtain ⟨ps, e1, e2⟩ := sts_of q
    have : adjD xs = adjB ps := by rw [e1]; unfold adjD; rw [pairs_map]
    have e : shutsOk (.tup xs) = adjB ps := by simp [shutsOk, h, q, this]
    rw [e, e1, chn_adj ps (-1) e2]
    cases ps with
    | nil => rfl
    | cons p r =>
      have := (e2 p List.mem_cons_self).1
      have z : decide (-1 < p.1) = true := decide_eq_true (by omega)
      simp [z]
  · have q := Bool.eq_false_iff.mpr q
    rw [chn_bad xs _ q]
    simp [shutsOk, q]
theorem strech_len {xs : List D} (h : ¬ (xs.length : Int) = 2) : strechOk (.tup xs) = false := by
  unfold strechOk
  split
  · rename_i heq
    cases heq
    exact absurd rfl h
  · rfl
/-- one turn of the look at the shut stretches -/
theorem lshut_turn {x a b d : D} {cs all : List D} {h : CH} {bh : Int} {r o c8 f9 : Option (D × Bool)} (pd : d.pure = true) :
    WP (turnF [3] true l_law_is_meadow_0 d ⟨[some (x, false), r, some (.int bh, false), o, some (a, false), some (b, false), some (.tup cs, false), some (.tup all, false), c8, f9, none, none, none], h⟩) fun f s' =>
      ((strechOk d && beh bh d) = true → f = .next ∧ s' = ⟨[some (x, false), r, some (.int (endOf d), false), some (d, false), some (a, false), some (b, false), some (.tup cs, false), some (.tup all, false), c8, f9, none, none, none], h⟩) ∧
      ((strechOk d && beh bh d) = false → f = .ret (.bl false) false ∧ s'.h = h) := by
  refine WP_turn ⟨_, rfl, WP_cons (WP_ite ?_)⟩
  cases d with
  | tup xs =>
    by_cases ql : (xs.length : Int) = 2
    · match xs, ql with
      | [y, z], _ =>
        have p := pure_tup pd
        have py := p y (by simp)
        have pz := p z (by simp)
        have ec : ev k_law_is_meadow_0 ⟨[some (x, false), r, some (.int bh, false), some (.tup [y, z], false), some (a, false), some (b, false), some (.tup cs, false), some (.tup all, false), c8, f9, none, none, none], h⟩ =
            .ok (.lst [.bl (isIn 0 9999 y), .bl (isIn 0 9999 z)], true) ⟨[some (x, false), r, some (.int bh, false), some (.tup [y, z], false), some (a, false), some (b, false), some (.tup cs, false), some (.tup all, false), c8, f9, none, none, none], h⟩ := by
          refine WP_eq (WP_compf (fun d => .bl (isIn 0 9999 d)) ?_)
          simp [ev, evs, evo, evp, evc, evi, evf, rdAll, Opd.rd, Opd.raw, Slots.val, Slots.loose, Slots.owns, P.app, tgt, tgts, setAll, wipeD, backD, selF, itemsOf, within_eq2 py, within_eq2 pz]
        have ea : ∀ p q : Bool, aAll [.lst [.bl p, .bl q]] = some (.bl (p && q), false) := fun p q => by
          simp [aAll, allM, D.bl?]
        have i0 : aIx [.tup [y, z], .int 0] = some (y, false) := rfl
        have i1 : aIx [.tup [y, z], .int 1] = some (z, false) := rfl
        by_cases qy : isIn 0 9999 y = true
        · by_cases qz : isIn 0 9999 z = true
          · obtain ⟨u, rfl, _⟩ := isIn_int qy
            obtain ⟨v, rfl, _⟩ := isIn_int qz
            simp [ev, evs, evo, evp, evc, evi, evf, rdAll, Opd.rd, Opd.raw, Slots.val, Slots.loose, Slots.owns, P.app, tgt, tgts, setAll, wipeD, backD, selF, itemsOf, aIsi, isiD, isiB, aLen, aNe, eqD_int, ec, ea, qy, qz]
            refine WP_cons (WP_ite ?_)
            by_cases q1 : u < v
            · have q1' : ¬ (v ≤ u) := by omega
              by_cases q2 : bh < u
              · have q2' : ¬ (u ≤ bh) := by omega
                simp [ev, evs, evo, evp, evc, evi, evf, rdAll, Opd.rd, Opd.raw, Slots.val, Slots.loose, Slots.owns, P.app, tgt, tgts, setAll, wipeD, backD, selF, itemsOf, aGe, aLe, i0, i1, q1', q2', execs, exec, strechOk, beh, endOf, qy, qz, q1, q2]
              · have q2' : u ≤ bh := by omega
                simp [ev, evs, evo, evp, evc, evi, evf, rdAll, Opd.rd, Opd.raw, Slots.val, Slots.loose, Slots.owns, P.app, tgt, tgts, setAll, wipeD, backD, selF, itemsOf, aGe, aLe, i0, i1, q1', q2', execs, exec, strechOk, beh, endOf, qy, qz, q1, q2]
            · have q1' : v ≤ u := by omega
              simp [ev, evs, evo, evp, evc, evi, evf, rdAll, Opd.rd, Opd.raw, Slots.val, Slots.loose, Slots.owns, P.app, tgt, tgts, setAll, wipeD, backD, selF, itemsOf, aGe, aLe, i0, i1, q1', execs, exec, strechOk, beh, endOf, qy, qz, q1]
          · simp [ev, evs, evo, evp, evc, evi, evf, rdAll, Opd.rd, Opd.raw, Slots.val, Slots.loose, Slots.owns, P.app, tgt, tgts, setAll, wipeD, backD, selF, itemsOf, aIsi, isiD, isiB, aLen, aNe, eqD_int, ec, ea, qy, qz, execs, exec, strechOk]
        · simp [ev, evs, evo, evp, evc, evi, evf, rdAll, Opd.rd, Opd.raw, Slots.val, Slots.loose, Slots.owns, P.app, tgt, tgts, setAll, wipeD, backD, selF, itemsOf, aIsi, isiD, isiB, aLen, aNe, eqD_int, ec, ea, qy, execs, exec, strechOk]
    · simp [ev, evs, evo, evp, evc, evi, evf, rdAll, Opd.rd, Opd.raw, Slots.val, Slots.loose, Slots.owns, P.app, tgt, tgts, setAll, wipeD, backD, selF, itemsOf, aIsi, isiD, isiB, aLen, aNe, eqD_int, ql, execs, exec, strech_len ql]
  | non => simp [ev, evs, evo, evp, evc, evi, evf, rdAll, Opd.rd, Opd.raw, Slots.val, Slots.loose, Slots.owns, P.app, tgt, tgts, setAll, wipeD, backD, selF, itemsOf, aIsi, isiD, isiB, execs, exec, strechOk]
  | bl t => simp [ev, evs, evo, evp, evc, evi, evf, rdAll, Opd.rd, Opd.raw, Slots.val, Slots.loose, Slots.owns, P.app, tgt, tgts, setAll, wipeD, backD, selF, itemsOf, aIsi, isiD, isiB, execs, exec, strechOk]
  | int t => simp [ev, evs, evo, evp, evc, evi, evf, rdAll, Opd.rd, Opd.raw, Slots.val, Slots.loose, Slots.owns, P.app, tgt, tgts, setAll, wipeD, backD, selF, itemsOf, aIsi, isiD, isiB, execs, exec, strechOk]
  | str t => simp [ev, evs, evo, evp, evc, evi, evf, rdAll, Opd.rd, Opd.raw, Slots.val, Slots.loose, Slots.owns, P.app, tgt, tgts, setAll, wipeD, backD, selF, itemsOf, aIsi, isiD, isiB, execs, exec, strechOk]
  | lst t => simp [ev, evs, evo, evp, evc, evi, evf, rdAll, Opd.rd, Opd.raw, Slots.val, Slots.loose, Slots.owns, P.app, tgt, tgts, setAll, wipeD, backD, selF, itemsOf, aIsi, isiD, isiB, execs, exec, strechOk]
  | dct t u => simp [ev, evs, evo, evp, evc, evi, evf, rdAll, Opd.rd, Opd.raw, Slots.val, Slots.loose, Slots.owns, P.app, tgt, tgts, setAll, wipeD, backD, selF, itemsOf, aIsi, isiD, isiB, execs, exec, strechOk]
  | ref t => cases pd
  | scr t => cases pd
/-- the shut stretches, one behind another (rest) -/
theorem lshuts_wp {x a b : D} {cs all : List D} {h : CH} {Q : Flow → Sta → Prop} : ∀ (ds : List D) (bh : Int) (r o c8 f9 : Option (D × Bool)), (∀ d ∈ ds, d.pure = true) →
    (∀ s, chn bh ds = true → s.h = h → Q .next s) → (∀ s, chn bh ds = false → s.h = h → Q (.ret (.bl false) false) s) →
    WP (forL (turnF [3] true l_law_is_meadow_0) ds ⟨[some (x, false), r, some (.int bh, false), o, some (a, false), some (b, false), some (.tup cs, false), some (.tup all, false), c8, f9, none, none, none], h⟩) Q
  | [], bh, r, o, c8, f9, _, q1, _ => q1 _ rfl rfl
  | d :: ds, bh, r, o, c8, f9, hp, q1, q2 => by
    refine WP_bind (WP_mono (lshut_turn (hp d List.mem_cons_self)) fun f s' q => ?_)
    have e : chn bh (d :: ds) = ((strechOk d && beh bh d) && chn (endOf d) ds) := by
      show (strechOk d && (beh bh d && chn (endOf d) ds)) = _
      rw [Bool.and_assoc]
    by_cases g : (strechOk d && beh bh d) = true
    · obtain ⟨rfl, rfl⟩ := q.1 g
      rw [g, Bool.true_and] at e
      rw [e] at q1 q2
      exact lshuts_wp ds (endOf d) r (some (d, false)) c8 f9 (fun e he => hp e (List.mem_cons_of_mem _ he)) q1 q2
    · have g := Bool.eq_false_iff.mpr g
      obtain ⟨rfl, hs⟩ := q.2 g
      rw [g, Bool.false_and] at e
      exact q2 s' e hs
/-- the first look at the rows -/
theorem lrow_turn {x a b row : D} {cs all : List D} {h : CH} {r bh o c8 f9 : Option (D × Bool)} (pr : row.pure = true) :
    WP (turnF [1] true l_law_is_meadow_3 row ⟨[some (x, false), r, bh, o, some (a, false), some (b, false), some (.tup cs, false), some (.tup all, false), c8, f9, none, none, none], h⟩) fun f s' =>
      s' = ⟨[some (x, false), some (row, false), bh, o, some (a, false), some (b, false), some (.tup cs, false), some (.tup all, false), c8, f9, none, none, none], h⟩ ∧ f = if rowOk cs.length row = true then .next else .ret (.bl false) false := by
  refine WP_turn ⟨_, rfl, WP_cons (WP_ite ?_)⟩
  cases row with
  | tup xs =>
    by_cases ql : (xs.length : Int) = (cs.length : Int)
    · have ec : ev k_law_is_meadow_2 ⟨[some (x, false), some (.tup xs, false), bh, o, some (a, false), some (b, false), some (.tup cs, false), some (.tup all, false), c8, f9, none, none, none], h⟩ =
          .ok (.lst (xs.map fun d => .bl (isIn 1 99 d)), true) ⟨[some (x, false), some (.tup xs, false), bh, o, some (a, false), some (b, false), some (.tup cs, false), some (.tup all, false), c8, f9, none, none, none], h⟩ := by
        refine WP_eq (WP_compf (fun d => .bl (isIn 1 99 d)) ?_)
        simp [ev, evs, evo, evp, evc, evi, evf, rdAll, Opd.rd, Opd.raw, Slots.val, Slots.loose, Slots.owns, P.app, tgt, tgts, setAll, wipeD, backD, selF, itemsOf]
        intro d hd
        simp [ev, evs, evo, evp, evc, evi, evf, rdAll, Opd.rd, Opd.raw, Slots.val, Slots.loose, Slots.owns, P.app, tgt, tgts, setAll, wipeD, backD, selF, itemsOf, within_eq2 (pure_tup pr d hd)]
      have ea : aAll [.lst (xs.map fun d => D.bl (isIn 1 99 d))] = some (.bl (xs.all (isIn 1 99)), false) := all_map
      by_cases qa : xs.all (isIn 1 99) = true
      · have er : rowOk cs.length (.tup xs) = true := by simp [rowOk, ql, qa]
        simp [ev, evs, evo, evp, evc, evi, evf, rdAll, Opd.rd, Opd.raw, Slots.val, Slots.loose, Slots.owns, P.app, tgt, tgts, setAll, wipeD, backD, selF, itemsOf, aIsi, isiD, isiB, aLen, aNe, eqD_int, ql, ec, ea, qa, er, execs, exec]
      · have qa := Bool.eq_false_iff.mpr qa
        have er : rowOk cs.length (.tup xs) = false := by simp [rowOk, ql, qa]
        simp [ev, evs, evo, evp, evc, evi, evf, rdAll, Opd.rd, Opd.raw, Slots.val, Slots.loose, Slots.owns, P.app, tgt, tgts, setAll, wipeD, backD, selF, itemsOf, aIsi, isiD, isiB, aLen, aNe, eqD_int, ql, ec, ea, qa, er, execs, exec]
    · have er : rowOk cs.length (.tup xs) = false := by simp [rowOk, ql]
      simp [ev, evs, evo, evp, evc, evi, evf, rdAll, Opd.rd, Opd.raw, Slots.val, Slots.loose, Slots.owns, P.app, tgt, tgts, setAll, wipeD, backD, selF, itemsOf, aIsi, isiD, isiB, aLen, aNe, eqD_int, ql, er, execs, exec]
  | non => simp [ev, evs, evo, evp, evc, evi, evf, rdAll, Opd.rd, Opd.raw, Slots.val, Slots.loose, Slots.owns, P.app, tgt, tgts, setAll, wipeD, backD, selF, itemsOf, aIsi, isiD, isiB, execs, exec, rowOk]
  | bl t => simp [ev, evs, evo, evp, evc, evi, evf, rdAll, Opd.rd, Opd.raw, Slots.val, Slots.loose, Slots.owns, P.app, tgt, tgts, setAll, wipeD, backD, selF, itemsOf, aIsi, isiD, isiB, execs, exec, rowOk]
  | int t => simp [ev, evs, evo, evp, evc, evi, evf, rdAll, Opd.rd, Opd.raw, Slots.val, Slots.loose, Slots.owns, P.app, tgt, tgts, setAll, wipeD, backD, selF, itemsOf, aIsi, isiD, isiB, execs, exec, rowOk]
  | str t => simp [ev, evs, evo, evp, evc, evi, evf, rdAll, Opd.rd, Opd.raw, Slots.val, Slots.loose, Slots.owns, P.app, tgt, tgts, setAll, wipeD, backD, selF, itemsOf, aIsi, isiD, isiB, execs, exec, rowOk]
  | lst t => simp [ev, evs, evo, evp, evc, evi, evf, rdAll, Opd.rd, Opd.raw, Slots.val, Slots.loose, Slots.owns, P.app, tgt, tgts, setAll, wipeD, backD, selF, itemsOf, aIsi, isiD, isiB, execs, exec, rowOk]
  | dct t u => simp [ev, evs, evo, evp, evc, evi, evf, rdAll, Opd.rd, Opd.raw, Slots.val, Slots.loose, Slots.owns, P.app, tgt, tgts, setAll, wipeD, backD, selF, itemsOf, aIsi, isiD, isiB, execs, exec, rowOk]
  | ref t => cases pr
  | scr t => cases pr
theorem filt_ints : ∀ (xs : List D) (p : D → Bool) (f : D → D), (∀ d ∈ xs, ∃ i, f d = .int i) → ∃ is : List Int, (xs.filter p).map f = is.map .int ∧ (is.isEmpty = xs.all fun d => !p d)
  | [], _, _, _ => ⟨[], rfl, rfl⟩
  | d :: r, p, f, h => by
    obtain ⟨is, e1, e2⟩ := filt_ints r p f fun e he => h e (List.mem_cons_of_mem _ he)
    obtain ⟨i, ei⟩ := h d List.mem_cons_self
    by_cases q : p d = true
    · exact ⟨i :: is, by simp [List.filter_cons, q, e1, ei], by simp [q]⟩
    · have q := Bool.eq_false_iff.mpr q
      exact ⟨is, by simp [List.filter_cons, q, e1], by simp [q, e2]⟩
/-- one turn of the second look, within a row -/
theorem lmid_turn {x a b : D} {all : List D} {M : Mat} {h : CH} {bh o c8 f9 : Option (D × Bool)} {row : List Int} {i : Nat} {y : Int} (hs : sq M) (hr : row.length = M.length) (hi : row[i]? = some y) :
    WP (turnF [8, 9] false l_law_is_meadow_1 (.tup [.int (i : Int), .int y]) ⟨[some (x, false), some (rowD row, false), bh, o, some (a, false), some (b, false), some (matD M, false), some (.tup all, false), c8, f9, none, none, none], h⟩) fun f s' =>
      s' = ⟨[some (x, false), some (rowD row, false), bh, o, some (a, false), some (b, false), some (matD M, false), some (.tup all, false), some (.int (i : Int), false), some (.int y, false), none, none, none], h⟩ ∧
      f = if pMid M (row.map .int) (.tup [.int (i : Int), .int y]) = true then .next else .ret (.bl false) false := by
  refine WP_turn ⟨_, rfl, WP_cons (WP_ite ?_)⟩
  have hl : i < M.length := by rw [← hr]; exact (List.getElem?_eq_some_iff.mp hi).1
  let p : D → Bool := fun d => !pIn M i y d
  let f : D → D := fun d => match d with
    | .tup [l, _] => l
    | _ => .non
  have ec : ev k_law_is_meadow_1 ⟨[some (x, false), some (rowD row, false), bh, o, some (a, false), some (b, false), some (matD M, false), some (.tup all, false), some (.int (i : Int), false), some (.int y, false), none, none, none], h⟩ =
      .ok (.lst (((enumD 0 (row.map .int)).filter p).map f), true) ⟨[some (x, false), some (rowD row, false), bh, o, some (a, false), some (b, false), some (matD M, false), some (.tup all, false), some (.int (i : Int), false), some (.int y, false), none, none, none], h⟩ := by
    refine WP_eq (WP_compk p f ?_)
    show WP (evi (.enum (.var 1)) ⟨[some (x, false), some (rowD row, false), bh, o, some (a, false), some (b, false), some (matD M, false), some (.tup all, false), some (.int (i : Int), false), some (.int y, false), none, none, none], h⟩) _
    show (_ : Prop) ∧ _
    refine ⟨rfl, fun d hd => ?_, ⟨rfl, rfl⟩⟩
    obtain ⟨j, z, hz, rfl⟩ := mem_enum hd
    have hj : j < M.length := by rw [← hr]; exact (List.getElem?_eq_some_iff.mp hz).1
    obtain ⟨r2, er, ec⟩ := cell_at hs hl hj
    refine ⟨_, rfl, ?_⟩
    by_cases q : y + cell M i j < z
    · simp [ev, evs, evo, evp, evc, evi, evf, rdAll, Opd.rd, Opd.raw, Slots.val, Slots.loose, Slots.owns, P.app, tgt, tgts, setAll, wipeD, backD, selF, itemsOf, aAdd, aGt, ix_mat er, ix_row ec, q, pIn, p, f]
    · have q2 : z ≤ y + cell M i j := by omega
      simp [ev, evs, evo, evp, evc, evi, evf, rdAll, Opd.rd, Opd.raw, Slots.val, Slots.loose, Slots.owns, P.app, tgt, tgts, setAll, wipeD, backD, selF, itemsOf, aAdd, aGt, ix_mat er, ix_row ec, q, q2, pIn, p, f]
  obtain ⟨is, e1, e2⟩ := filt_ints (enumD 0 (row.map .int)) p f fun d hd => by
    obtain ⟨j, z, hz, rfl⟩ := mem_enum hd
    exact ⟨j, rfl⟩
  rw [e1] at ec
  have em : pMid M (row.map .int) (.tup [.int (i : Int), .int y]) = is.isEmpty := by
    rw [e2]
    show (enumD 0 (row.map .int)).all (pIn M i y) = _
    congr 1
    funext d
    simp [p]
  rw [em]
  have en : aNe [.lst (is.map .int), .lst []] = some (.bl (!is.isEmpty), false) := by
    show (eqD (.lst (is.map .int)) (.lst [])).map _ = _
    rw [eqD_nil]
    rfl
  cases hq : is.isEmpty <;> simp [ev, evs, evo, evp, evc, evi, evf, rdAll, Opd.rd, Opd.raw, Slots.val, Slots.loose, Slots.owns, P.app, tgt, tgts, setAll, wipeD, backD, selF, itemsOf, ec, en, hq, execs, exec]
theorem lout_turn {x a b : D} {all : List D} {M : Mat} {h : CH} {r bh o c8 f9 : Option (D × Bool)} {row : List Int} (hs : sq M) (hr : row.length = M.length) :
    WP (turnF [1] true l_law_is_meadow_2 (rowD row) ⟨[some (x, false), r, bh, o, some (a, false), some (b, false), some (matD M, false), some (.tup all, false), c8, f9, none, none, none], h⟩) fun f s' =>
      (∃ c8 f9, s' = ⟨[some (x, false), some (rowD row, false), bh, o, some (a, false), some (b, false), some (matD M, false), some (.tup all, false), c8, f9, none, none, none], h⟩) ∧
      f = if pOut M (rowD row) = true then .next else .ret (.bl false) false := by
  refine WP_turn ⟨_, rfl, WP_cons (WP_fr ?_)⟩
  show WP (forL (turnF [8, 9] false l_law_is_meadow_1) (enumD 0 (row.map .int)) ⟨[some (x, false), some (rowD row, false), bh, o, some (a, false), some (b, false), some (matD M, false), some (.tup all, false), c8, f9, none, none, none], h⟩) _
  refine WP_forp (fun s => ∃ c8 f9, s = ⟨[some (x, false), some (rowD row, false), bh, o, some (a, false), some (b, false), some (matD M, false), some (.tup all, false), c8, f9, none, none, none], h⟩) (pMid M (row.map .int)) (.bl false) false ⟨_, _, rfl⟩ ?_ ?_ ?_
  · rintro d hd s ⟨c, g, rfl⟩
    obtain ⟨i, y, hy, rfl⟩ := mem_enum hd
    exact WP_mono (lmid_turn hs hr hy) fun f s' q => ⟨⟨_, _, q.1⟩, q.2⟩
  · rintro s ⟨c, g, rfl⟩ q
    exact ⟨⟨_, _, rfl⟩, by rw [show pOut M (rowD row) = true from q]; rfl⟩
  · rintro s ⟨c, g, rfl⟩ q
    exact ⟨⟨_, _, rfl⟩, by rw [show pOut M (rowD row) = false from q]; rfl⟩
theorem lmeadow_wp {a b c d : D} {h : CH} (hx : (D.tup [a, b, c, d]).pure = true) : WP (F_law_is_meadow [.tup [a, b, c, d]] h) fun r h' => r = (.bl (meadowOk (.tup [a, b, c, d])), false) ∧ h' = h := by
  have p := pure_tup hx
  have pa := p a (by simp)
  have pb := p b (by simp)
  have pc := p c (by simp)
  have pd := p d (by simp)
  refine WP_def rfl (WP_cons (WP_ite ?_))
  simp [ev, evs, evo, evp, evc, evi, evf, rdAll, Opd.rd, Opd.raw, Slots.val, Slots.loose, Slots.owns, P.app, tgt, tgts, setAll, wipeD, backD, selF, itemsOf, aIsi, isiD, isiB, aLen, aNe, eqD_int]
  refine WP_cons (WP_unp ?_)
  simp [ev, evs, evo, evp, evc, evi, evf, rdAll, Opd.rd, Opd.raw, Slots.val, Slots.loose, Slots.owns, P.app, tgt, tgts, setAll, wipeD, backD, selF, itemsOf]
  refine WP_cons (WP_ite ?_)
  by_cases qa : isIn 0 8 a = true
  · by_cases qb : isIn 0 60 b = true
    · have em : meadowOk (.tup [a, b, c, d]) = (gapsOk c && shutsOk d) := by simp [meadowOk, qa, qb]
      rw [em]
      simp [ev, evs, evo, evp, evc, evi, evf, rdAll, Opd.rd, Opd.raw, Slots.val, Slots.loose, Slots.owns, P.app, tgt, tgts, setAll, wipeD, backD, selF, itemsOf, within_eq2 pa, within_eq2 pb, qa, qb]
      refine WP_cons (WP_ite ?_)
      by_cases qc : ∃ cs, c = .tup cs ∧ 1 ≤ (cs.length : Int) ∧ (cs.length : Int) ≤ 4
      · obtain ⟨cs, rfl, c1, c2⟩ := qc
        by_cases qd : ∃ ds, d = .tup ds ∧ (ds.length : Int) ≤ 4
        · obtain ⟨ds, rfl, d1⟩ := qd
          have d2 : ¬ (4 < (ds.length : Int)) := by omega
          simp [ev, evs, evo, evp, evc, evi, evf, rdAll, Opd.rd, Opd.raw, Slots.val, Slots.loose, Slots.owns, P.app, tgt, tgts, setAll, wipeD, backD, selF, itemsOf, aIsi, isiD, isiB, aLen, aLe, aGt, c1, c2, d2]
          refine WP_cons (WP_fr ?_)
          show WP (forL (turnF [1] true l_law_is_meadow_3) cs ⟨[some (.tup [a, b, .tup cs, .tup ds], false), none, none, none, some (a, false), some (b, false), some (.tup cs, false), some (.tup ds, false), none, none, none, none, none], h⟩) _
          refine WP_forp (fun s => ∃ r, s = ⟨[some (.tup [a, b, .tup cs, .tup ds], false), r, none, none, some (a, false), some (b, false), some (.tup cs, false), some (.tup ds, false), none, none, none, none, none], h⟩) (rowOk cs.length) (.bl false) false ⟨_, rfl⟩ ?_ ?_ ?_
          · rintro e he s ⟨r, rfl⟩
            exact WP_mono (lrow_turn (pure_tup pc e he)) fun f s' q => ⟨⟨_, q.1⟩, q.2⟩
          · rintro s ⟨r, rfl⟩ q
            obtain ⟨M, e1, e2, e3⟩ := mat_of q
            have hs : sq M := fun r hr => by
              have z := e3 r hr
              rw [e1, List.length_map] at z
              exact Int.ofNat.inj z
            have eg : gapsOk (.tup cs) = strB M := by simp [gapsOk, c1, c2, q, strD, e2]
            rw [eg]
            have ecs : D.tup cs = matD M := by rw [e1]; rfl
            show WP (execs (.cons (.fr [1] true (.of (.var 6)) l_law_is_meadow_2) _) _) _
            refine WP_cons (WP_fr ?_)
            show WP (forL (turnF [1] true l_law_is_meadow_2) cs ⟨[some (.tup [a, b, .tup cs, .tup ds], false), r, none, none, some (a, false), some (b, false), some (.tup cs, false), some (.tup ds, false), none, none, none, none, none], h⟩) _
            rw [ecs, e1]
            refine WP_forp (fun s => ∃ r c8 f9, s = ⟨[some (.tup [a, b, matD M, .tup ds], false), r, none, none, some (a, false), some (b, false), some (matD M, false), some (.tup ds, false), c8, f9, none, none, none], h⟩) (pOut M) (.bl false) false ⟨_, _, _, rfl⟩ ?_ ?_ ?_
            · rintro e he s ⟨r, c8, f9, rfl⟩
              obtain ⟨row, hr, rfl⟩ := List.mem_map.mp he
              refine WP_mono (lout_turn hs (hs row hr)) fun f s' q => ?_
              obtain ⟨⟨c, g, q1⟩, q2⟩ := q
              exact ⟨⟨_, _, _, q1⟩, q2⟩
            · rintro s ⟨r, c8, f9, rfl⟩ q
              have q : strB M = true := q
              rw [q, Bool.true_and, ← chn_shuts d1]
              show WP (execs (.cons (.asg 2 _) _) _) _
              refine WP_cons (WP_asg ?_)
              simp [ev, evs, evo, evp, evc, evi, evf, rdAll, Opd.rd, Opd.raw, Slots.val, Slots.loose, Slots.owns, P.app, tgt, tgts, setAll, wipeD, backD, selF, itemsOf, aNeg]
              refine WP_cons (WP_fr ?_)
              show WP (forL (turnF [3] true l_law_is_meadow_0) ds ⟨[some (.tup [a, b, matD M, .tup ds], false), r, some (.int (-1), false), none, some (a, false), some (b, false), some (matD M, false), some (.tup ds, false), c8, f9, none, none, none], h⟩) _
              refine lshuts_wp ds (-1) r none c8 f9 (pure_tup pd) (fun s q hh => ?_) fun s q hh => ?_
              · rw [seqQ_next]
                refine WP_cons (WP_ret (fun _ z => nomatch z) ?_)
                simp [ev, evs, evo, evp, evc, evi, evf, rdAll, Opd.rd, Opd.raw, Slots.val, Slots.loose, Slots.owns, P.app, tgt, tgts, setAll, wipeD, backD, selF, itemsOf, q, hh]
              · simp [q, hh]
            · rintro s ⟨r, c8, f9, rfl⟩ q
              have q : strB M = false := q
              simp [q]
          · rintro s ⟨r, rfl⟩ q
            have eg : gapsOk (.tup cs) = false := by simp [gapsOk, q]
            simp [eg]
        · have es : shutsOk d = false := by
            cases d with
            | tup ds =>
              have : ¬ ((ds.length : Int) ≤ 4) := fun z => qd ⟨ds, rfl, z⟩
              simp [shutsOk, this]
            | _ => rfl
          rw [es, Bool.and_false]
          cases d with
          | tup ds =>
            have : 4 < (ds.length : Int) := by
              have : ¬ ((ds.length : Int) ≤ 4) := fun z => qd ⟨ds, rfl, z⟩
              omega
            simp [ev, evs, evo, evp, evc, evi, evf, rdAll, Opd.rd, Opd.raw, Slots.val, Slots.loose, Slots.owns, P.app, tgt, tgts, setAll, wipeD, backD, selF, itemsOf, aIsi, isiD, isiB, aLen, aLe, aGt, c1, c2, this, execs, exec]
          | non => simp [ev, evs, evo, evp, evc, evi, evf, rdAll, Opd.rd, Opd.raw, Slots.val, Slots.loose, Slots.owns, P.app, tgt, tgts, setAll, wipeD, backD, selF, itemsOf, aIsi, isiD, isiB, aLen, aLe, c1, c2, execs, exec]
          | bl t => simp [ev, evs, evo, evp, evc, evi, evf, rdAll, Opd.rd, Opd.raw, Slots.val, Slots.loose, Slots.owns, P.app, tgt, tgts, setAll, wipeD, backD, selF, itemsOf, aIsi, isiD, isiB, aLen, aLe, c1, c2, execs, exec]
          | int t => simp [ev, evs, evo, evp, evc, evi, evf, rdAll, Opd.rd, Opd.raw, Slots.val, Slots.loose, Slots.owns, P.app, tgt, tgts, setAll, wipeD, backD, selF, itemsOf, aIsi, isiD, isiB, aLen, aLe, c1, c2, execs, exec]
          | str t => simp [ev, evs, evo, evp, evc, evi, evf, rdAll, Opd.rd, Opd.raw, Slots.val, Slots.loose, Slots.owns, P.app, tgt, tgts, setAll, wipeD, backD, selF, itemsOf, aIsi, isiD, isiB, aLen, aLe, c1, c2, execs, exec]
          | lst t => simp [ev, evs, evo, evp, evc, evi, evf, rdAll, Opd.rd, Opd.raw, Slots.val, Slots.loose, Slots.owns, P.app, tgt, tgts, setAll, wipeD, backD, selF, itemsOf, aIsi, isiD, isiB, aLen, aLe, c1, c2, execs, exec]
          | dct t u => simp [ev, evs, evo, evp, evc, evi, evf, rdAll, Opd.rd, Opd.raw, Slots.val, Slots.loose, Slots.owns, P.app, tgt, tgts, setAll, wipeD, backD, selF, itemsOf, aIsi, isiD, isiB, aLen, aLe, c1, c2, execs, exec]
          | ref t => cases pd
          | scr t => cases pd
      · have eg : gapsOk c = false := gaps_no fun cs e z => qc ⟨cs, e, z.1, z.2⟩
        rw [eg, Bool.false_and]
        cases c with
        | tup cs =>
          by_cases c1 : 1 ≤ (cs.length : Int)
          · have c2 : ¬ ((cs.length : Int) ≤ 4) := fun z => qc ⟨cs, rfl, c1, z⟩
            simp [ev, evs, evo, evp, evc, evi, evf, rdAll, Opd.rd, Opd.raw, Slots.val, Slots.loose, Slots.owns, P.app, tgt, tgts, setAll, wipeD, backD, selF, itemsOf, aIsi, isiD, isiB, aLen, aLe, c1, c2, execs, exec]
          · simp [ev, evs, evo, evp, evc, evi, evf, rdAll, Opd.rd, Opd.raw, Slots.val, Slots.loose, Slots.owns, P.app, tgt, tgts, setAll, wipeD, backD, selF, itemsOf, aIsi, isiD, isiB, aLen, aLe, c1, execs, exec]
        | non => simp [ev, evs, evo, evp, evc, evi, evf, rdAll, Opd.rd, Opd.raw, Slots.val, Slots.loose, Slots.owns, P.app, tgt, tgts, setAll, wipeD, backD, selF, itemsOf, aIsi, isiD, isiB, execs, exec]
        | bl t => simp [ev, evs, evo, evp, evc, evi, evf, rdAll, Opd.rd, Opd.raw, Slots.val, Slots.loose, Slots.owns, P.app, tgt, tgts, setAll, wipeD, backD, selF, itemsOf, aIsi, isiD, isiB, execs, exec]
        | int t => simp [ev, evs, evo, evp, evc, evi, evf, rdAll, Opd.rd, Opd.raw, Slots.val, Slots.loose, Slots.owns, P.app, tgt, tgts, setAll, wipeD, backD, selF, itemsOf, aIsi, isiD, isiB, execs, exec]
        | str t => simp [ev, evs, evo, evp, evc, evi, evf, rdAll, Opd.rd, Opd.raw, Slots.val, Slots.loose, Slots.owns, P.app, tgt, tgts, setAll, wipeD, backD, selF, itemsOf, aIsi, isiD, isiB, execs, exec]
        | lst t => simp [ev, evs, evo, evp, evc, evi, evf, rdAll, Opd.rd, Opd.raw, Slots.val, Slots.loose, Slots.owns, P.app, tgt, tgts, setAll, wipeD, backD, selF, itemsOf, aIsi, isiD, isiB, execs, exec]
        | dct t u => simp [ev, evs, evo, evp, evc, evi, evf, rdAll, Opd.rd, Opd.raw, Slots.val, Slots.loose, Slots.owns, P.app, tgt, tgts, setAll, wipeD, backD, selF, itemsOf, aIsi, isiD, isiB, execs, exec]
        | ref t => cases pc
        | scr t => cases pc
    · simp [ev, evs, evo, evp, evc, evi, evf, rdAll, Opd.rd, Opd.raw, Slots.val, Slots.loose, Slots.owns, P.app, tgt, tgts, setAll, wipeD, backD, selF, itemsOf, execs, exec, within_eq2 pa, within_eq2 pb, qa, qb, meadowOk]
  · simp [ev, evs, evo, evp, evc, evi, evf, rdAll, Opd.rd, Opd.raw, Slots.val, Slots.loose, Slots.owns, P.app, tgt, tgts, setAll, wipeD, backD, selF, itemsOf, execs, exec, within_eq2 pa, within_eq2 pb, qa, meadowOk]
theorem lmeadow_eq {x : D} {h : CH} (hx : x.pure = true) : F_law_is_meadow [x] h = .ok (.bl (meadowOk x), false) h := by
  cases x <;> try (first | rfl | cases hx)
  rename_i xs
  by_cases q1 : (xs.length : Int) = 4
  · obtain ⟨a, b, c, d, rfl⟩ := len4 q1
    exact WP_eq (lmeadow_wp hx)
  · have e := meadowOk_len q1
    refine WP_eq (WP_def rfl (WP_cons (WP_ite ?_)))
    simp [ev, evs, evo, evp, evc, evi, evf, rdAll, Opd.rd, Opd.raw, Slots.val, Slots.loose, Slots.owns, P.app, tgt, tgts, setAll, wipeD, backD, selF, itemsOf, aIsi, isiD, isiB, aLen, aNe, eqD_int, q1, e, execs, exec]
end LW

/-! plain: the pot, gaps drawn -/
namespace LW
open Dd
theorem hp_len {h : CH} {l : Nat} {n : Int} : (hp h l n).length = h.length := by
  unfold hp; simp
theorem hp_self {h : CH} {n : Int} : (h ++ [.lst [.int n]] : CH) = hp (h ++ [.lst [.int n]]) h.length n := by
  unfold hp
  refine List.ext_getElem? fun i => ?_
  by_cases q : i = h.length
  · subst q; simp
  · rw [List.getElem?_set_ne (Ne.symm q)]
/-- a draw below far -/
theorem take_ex {h : CH} {l : Nat} {n far : Int} (hl : l < h.length) (hf : 0 < far) (hf2 : far < 1073741824) : ∃ (k : Nat) (m : Int), (k : Int) < far ∧ F_law_take [.ref l, .int far] (hp h l n) = .ok (.int (k : Int), false) (hp h l m) := by
  have h1 := Int.emod_nonneg n (Int.ne_of_gt hf)
  have h2 := Int.emod_lt_of_pos n hf
  refine ⟨(n % far).toNat, n / far, by omega, ?_⟩
  rw [take_eq hl hf hf2, Int.toNat_of_nonneg h1]
theorem cell_ex {ns : List Int} {k : Nat} {h : CH} : ∃ c, F_law_cell_at [.scr ns, .int (k : Int)] h = .ok (.int c, false) h := by
  by_cases q : (k : Int) < (ns.length : Int)
  · have hk : k < ns.length := by omega
    refine ⟨ns[k], WP_eq (WP_def rfl (WP_cons (WP_ite ?_)))⟩
    have i0 : aIx [.scr ns, .int (k : Int)] = some (.int ns[k], false) := by
      show (getI ns (k : Int)).map _ = _
      have e : getI ns (k : Int) = some ns[k] := by
        unfold getI ixD
        rw [if_pos (Int.natCast_nonneg k), if_pos q]
        show ns[((k : Int)).toNat]? = _
        rw [Int.toNat_natCast]
        simp [hk]
      rw [e]
      rfl
    simp [ev, evs, evo, evp, evc, evi, evf, rdAll, Opd.rd, Opd.raw, Slots.val, Slots.loose, Slots.owns, P.app, tgt, tgts, setAll, wipeD, backD, selF, itemsOf, aLen, aLt, q, execs, exec, i0]
  · refine ⟨0, WP_eq (WP_def rfl (WP_cons (WP_ite ?_)))⟩
    simp [ev, evs, evo, evp, evc, evi, evf, rdAll, Opd.rd, Opd.raw, Slots.val, Slots.loose, Slots.owns, P.app, tgt, tgts, setAll, wipeD, backD, selF, itemsOf, aLen, aLt, q, execs, exec]
/-- one turn of the pot's mixing -/
theorem pot_turn {c n : Int} {o1 o3 : Option (D × Bool)} {k : Nat} {h : CH} (hk : k < 64) : WP (turnF [2] true l_law_pot_0 (.int (k : Int)) ⟨[some (.int c, false), some (.int n, false), o1, o3], h⟩) fun f s' => f = .next ∧ ∃ m a b, s' = ⟨[some (.int c, false), some (.int m, false), a, b], h⟩ := by
  refine WP_turn ⟨_, rfl, WP_cons (WP_asg ?_)⟩
  have k1 : (7919 * (k : Int)).natAbs < 18446744073709551616 := by omega
  simp [ev, evs, evo, evp, evc, evi, evf, rdAll, Opd.rd, Opd.raw, Slots.val, Slots.loose, Slots.owns, P.app, tgt, tgts, setAll, wipeD, backD, selF, itemsOf, aAdd, aMul, aMod]
  refine WP_cons (WP_asg ?_)
  generalize hv : (c % 2147483629 + 7919 * (k : Int) + 1) * 48271 % 2147483647 = v
  have v1 : 0 ≤ v ∧ v < 2147483647 := by omega
  have v2 : v.natAbs < 18446744073709551616 := by omega
  simp [ev, evs, evo, evp, evc, evi, evf, rdAll, Opd.rd, Opd.raw, Slots.val, Slots.loose, Slots.owns, P.app, tgt, tgts, setAll, wipeD, backD, selF, itemsOf, aAdd, aMul, aMod, v2]
  refine WP_cons (WP_asg ?_)
  simp [ev, evs, evo, evp, evc, evi, evf, rdAll, Opd.rd, Opd.raw, Slots.val, Slots.loose, Slots.owns, P.app, tgt, tgts, setAll, wipeD, backD, selF, itemsOf, aAdd, aMul, aMod, execs]
theorem pot_ex {c : Int} {h : CH} : ∃ n, F_law_pot [.int c] h = .ok (.ref h.length, false) (h ++ [.lst [.int n]]) := by
  have w : WP (F_law_pot [.int c] h) fun a h' => ∃ n, a = (.ref h.length, false) ∧ h' = h ++ [.lst [.int n]] := by
    refine WP_def rfl (WP_cons (WP_ite ?_))
    have e18 : aPow [.int 10, .int 18] = some (.int 1000000000000000000, false) := by rfl
    by_cases q : (1000000000000000000 : Int) ≤ c
    · simp [ev, evs, evo, evp, evc, evi, evf, rdAll, Opd.rd, Opd.raw, Slots.val, Slots.loose, Slots.owns, P.app, tgt, tgts, setAll, wipeD, backD, selF, itemsOf, e18, aGe, q, execs, exec, aSub]
    · simp [ev, evs, evo, evp, evc, evi, evf, rdAll, Opd.rd, Opd.raw, Slots.val, Slots.loose, Slots.owns, P.app, tgt, tgts, setAll, wipeD, backD, selF, itemsOf, e18, aGe, q]
      refine WP_cons (WP_asg ?_)
      simp [ev, evs, evo, evp, evc, evi, evf, rdAll, Opd.rd, Opd.raw, Slots.val, Slots.loose, Slots.owns, P.app, tgt, tgts, setAll, wipeD, backD, selF, itemsOf]
      refine WP_cons (WP_fr ?_)
      have er : okRng 0 64 = true := by decide
      simp [ev, evs, evo, evp, evc, evi, evf, rdAll, Opd.rd, Opd.raw, Slots.val, Slots.loose, Slots.owns, P.app, tgt, tgts, setAll, wipeD, backD, selF, itemsOf, er]
      refine WP_for (fun ds s => (∃ m a b, s = ⟨[some (.int c, false), some (.int m, false), a, b], h⟩) ∧ ∀ d ∈ ds, ∃ k : Nat, k < 64 ∧ d = .int (k : Int)) ⟨⟨_, _, _, rfl⟩, fun d hd => ?_⟩ ?_ ?_
      · unfold rngL at hd
        obtain ⟨k, hk, rfl⟩ := List.mem_map.mp hd
        exact ⟨k, List.mem_range.mp hk, by simp⟩
      · rintro d r s ⟨⟨m, a, b, rfl⟩, hd⟩
        obtain ⟨k, hk, rfl⟩ := hd d List.mem_cons_self
        refine WP_mono (pot_turn hk) fun f s' z => ?_
        obtain ⟨rfl, m, a, b, e⟩ := z
        exact ⟨⟨m, a, b, e⟩, fun e he => hd e (List.mem_cons_of_mem _ he)⟩
      · rintro s ⟨⟨m, a, b, rfl⟩, _⟩
        rw [seqQ_next]
        refine WP_cons (WP_ret (fun _ z => nomatch z) ?_)
        simp [ev, evs, evo, evp, evc, evi, evf, rdAll, Opd.rd, Opd.raw, Slots.val, Slots.loose, Slots.owns, P.app, tgt, tgts, setAll, wipeD, backD, selF, itemsOf]
  obtain ⟨a, h', e, n, rfl, rfl⟩ := WP_ex w
  exact ⟨n, e⟩
/-! ### gaps drawn -/
def matL (M : Mat) : D := .lst (M.map fun r => .lst (r.map .int))
def between (M : Mat) : Prop := ∀ r ∈ M, ∀ x ∈ r, 1 ≤ x ∧ x ≤ 99
/-- a list of draws -/
theorem draws {Pd : D → Prop} {Q : D × Bool → Sta → Prop} {own : List (PySem.Str × Nat)} {tg : List Nat} {one : Bool} {it : It} {elt : C} {s : Sta} {h : CH} {l : Nat} {n : Int} (hs : s.h = hp h l n) (w : WP (evi it s) fun ds s1 => s1.h = s.h ∧ (own.all fun p => !s1.sl.owns p.2) = true ∧
      (∀ d ∈ ds, ∀ m, ∃ sl, tgt (wipeD s1.sl (own.map (·.2))) tg one d = some sl ∧ WP (ev elt ⟨sl, hp h l m⟩) fun y s4 => Pd y.1 ∧ (∃ m, s4.h = hp h l m) ∧ wipeD s4.sl (own.map (·.2)) = wipeD s1.sl (own.map (·.2))) ∧
      ∀ xs : List D, ∀ m, xs.length = ds.length → (∀ x ∈ xs, Pd x) → Q (.lst xs, true) ⟨unh it s.sl (backD s1.sl (wipeD s1.sl (own.map (·.2))) (own.map (·.2))), hp h l m⟩) : WP (ev (.comp own tg one it .nil elt) s) Q := by
  refine WP_comp (WP_mono w fun ds s1 q => ⟨q.2.1, fun acc r s2 => (∃ m, s2 = ⟨wipeD s1.sl (own.map (·.2)), hp h l m⟩) ∧ ∃ d1, ds = d1 ++ r ∧ acc.length = d1.length ∧ ∀ x ∈ acc, Pd x, ⟨⟨n, by rw [q.1, hs]⟩, [], rfl, rfl, fun _ z => nomatch z⟩, fun acc d r s2 i => ?_, fun acc s2 i => ?_⟩)
  · obtain ⟨⟨m, rfl⟩, d1, e1, e2, e4⟩ := i
    obtain ⟨sl, e5, w5⟩ := q.2.2.1 d (by rw [e1]; exact List.mem_append_right _ List.mem_cons_self) m
    refine ⟨sl, e5, ?_⟩
    show (true = true → _) ∧ (true = false → _)
    refine ⟨fun _ => WP_mono w5 fun y s4 z => ?_, fun z => nomatch z⟩
    obtain ⟨y1, ⟨m2, y4⟩, y5⟩ := z
    refine ⟨⟨m2, by cases s4; simp only at y4 y5; rw [y4, y5]⟩, d1 ++ [d], by rw [e1, List.append_assoc]; rfl, by simp [e2], fun x hx => ?_⟩
    rcases List.mem_append.mp hx with hx | hx
    · exact e4 x hx
    · rw [List.mem_singleton.mp hx]; exact y1
  · obtain ⟨⟨m, rfl⟩, d1, e1, e2, e4⟩ := i
    rw [List.append_nil] at e1
    subst e1
    exact q.2.2.2 acc m e2 e4
end LW

/-! plain: gaps by shortest sums are straight -/
namespace LW
open Dd
def min2 (i j : Int) : Int := if j < i then j else i
def stepR (M : Mat) (c : Nat) (row : List Int) : List Int := (row.zipIdx).map fun q => min2 q.1 ((row[c]?).getD 0 + cell M c q.2)
def stepM (M : Mat) (c : Nat) : Mat := M.map (stepR M c)
theorem cell_row {M : Mat} {i j : Nat} {r : List Int} (h : M[i]? = some r) : cell M i j = (r[j]?).getD 0 := by
  unfold cell
  rw [h]
  rfl
theorem step_len (M : Mat) (c : Nat) : (stepM M c).length = M.length := by unfold stepM; simp
theorem step_sq {M : Mat} {c : Nat} (hs : sq M) : sq (stepM M c) := fun r hr => by
  unfold stepM at hr
  obtain ⟨r0, h0, rfl⟩ := List.mem_map.mp hr
  rw [step_len]
  unfold stepR
  simp [hs r0 h0]
theorem step_cell {M : Mat} {c i j : Nat} (hs : sq M) (hi : i < M.length) (hj : j < M.length) : cell (stepM M c) i j = min2 (cell M i j) (cell M i c + cell M c j) := by
  obtain ⟨r, er, ej⟩ := cell_at hs hi hj
  have e1 : (stepM M c)[i]? = some (stepR M c r) := by unfold stepM; simp [er]
  rw [cell_row e1, cell_row er, cell_row er]
  have e2 : (stepR M c r)[j]? = some (min2 (cell M i j) ((r[c]?).getD 0 + cell M c j)) := by
    unfold stepR
    rw [List.getElem?_map, List.getElem?_zipIdx, ej]
    simp
  rw [e2, ej]
  rfl
/-- no kind below c between makes a gap less -/
def tri (M : Mat) (c : Nat) : Prop := ∀ b, b < c → ∀ i j, i < M.length → j < M.length → cell M i j ≤ cell M i b + cell M b j
def nneg (M : Mat) : Prop := ∀ i j, i < M.length → j < M.length → 1 ≤ cell M i j ∧ cell M i j ≤ 99
theorem step_nneg {M : Mat} {c : Nat} (hs : sq M) (hc : c < M.length) (hn : nneg M) : nneg (stepM M c) := fun i j hi hj => by
  rw [step_len] at hi hj
  rw [step_cell hs hi hj]
  have h1 := hn i j hi hj
  have h2 := hn i c hi hc
  have h3 := hn c j hc hj
  unfold min2
  split <;> omega
theorem step_tri {M : Mat} {c : Nat} (hs : sq M) (hc : c < M.length) (hn : nneg M) (ht : tri M c) : tri (stepM M c) (c + 1) := fun b hb i j hi hj => by
  rw [step_len] at hi hj
  have hbl : b < M.length := by omega
  rw [step_cell hs hi hj, step_cell hs hi hbl, step_cell hs hbl hj]
  have n1 := hn c c hc hc
  by_cases e : b = c
  · subst e
    unfold min2
    split <;> split <;> split <;> omega
  · have hb' : b < c := by omega
    have t1 := ht b hb' i j hi hj
    have t2 := ht b hb' i c hi hc
    have t3 := ht b hb' c j hc hj
    have t4 := ht b hb' c c hc hc
    unfold min2
    split <;> split <;> split <;> omega
theorem strB_of {M : Mat} (hs : sq M) (ht : tri M M.length) : strB M = true := by
  unfold strB
  rw [List.all_map, List.all_eq_true]
  intro r hr
  obtain ⟨i, hi, er⟩ := List.getElem_of_mem hr
  have hl := hs r hr
  show (enumD 0 (r.map .int)).all (pMid M (r.map .int)) = true
  rw [List.all_eq_true]
  intro d hd
  obtain ⟨b, x, hx, rfl⟩ := mem_enum hd
  show (enumD 0 (r.map .int)).all (pIn M b x) = true
  rw [List.all_eq_true]
  intro e he
  obtain ⟨j, y, hy, rfl⟩ := mem_enum he
  show decide (¬ (x + cell M b j < y)) = true
  have hb : b < M.length := by rw [← hl]; exact (List.getElem?_eq_some_iff.mp hx).1
  have hj : j < M.length := by rw [← hl]; exact (List.getElem?_eq_some_iff.mp hy).1
  have hM : M[i]? = some r := by rw [List.getElem?_eq_getElem hi, er]
  have t := ht b hb i j hi hj
  rw [cell_row hM, cell_row hM, hy, hx] at t
  have t : y ≤ x + cell M b j := t
  exact decide_eq_true (by omega)
theorem nneg_of {M : Mat} (hs : sq M) (h : ∀ r ∈ M, ∀ x ∈ r, 1 ≤ x ∧ x ≤ 99) : nneg M := fun i j hi hj => by
  obtain ⟨r, er, ej⟩ := cell_at hs hi hj
  exact h r (List.mem_of_getElem? er) _ (List.mem_of_getElem? ej)
theorem all_of_nneg {M : Mat} (hs : sq M) (h : nneg M) : ∀ r ∈ M, ∀ x ∈ r, 1 ≤ x ∧ x ≤ 99 := fun r hr x hx => by
  obtain ⟨i, hi, er⟩ := List.getElem_of_mem hr
  obtain ⟨j, hj, ex⟩ := List.getElem_of_mem hx
  have hl := hs r hr
  have hM : M[i]? = some r := by rw [List.getElem?_eq_getElem hi, er]
  have q := h i j hi (by rw [← hl]; exact hj)
  rw [cell_row hM, List.getElem?_eq_getElem hj, ex] at q
  exact q
/-! ### .. as the text does it -/
def lrow (r : List Int) : D := .lst (r.map .int)
def lmat (M : Mat) : D := .lst (M.map lrow)
@[simp] theorem deref_lrow {r : List Int} {h : CH} : derefD h (lrow r) = lrow r := rfl
@[simp] theorem deref_lmat {M : Mat} {h : CH} : derefD h (lmat M) = lmat M := rfl
theorem enum_zip : ∀ (r : List Int) (k : Nat), enumD k (r.map .int) = (r.zipIdx k).map fun q => .tup [.int (q.2 : Int), .int q.1]
  | [], _ => rfl
  | x :: r, k => by
    rw [List.map_cons, List.zipIdx_cons, List.map_cons, ← enum_zip r (k + 1)]
    rfl
theorem ix_lrow {r : List Int} {i : Nat} {x : Int} (h : r[i]? = some x) : aIx [lrow r, .int (i : Int)] = some (.int x, false) := ix_lst (by simp [h])
theorem ix_lmat {M : Mat} {i : Nat} {r : List Int} (h : M[i]? = some r) : aIx [lmat M, .int (i : Int)] = some (lrow r, false) := ix_lst (by simp [h])
theorem gstep_in {p x3 x4 : Option (D × Bool)} {M : Mat} {n : Int} {c : Nat} {row : List Int} {h : CH} (hs : sq M) (hc : c < M.length) (hr : row.length = M.length) :
    ev k_law_gaps_1 ⟨[p, some (.int n, false), some (lmat M, false), some (.int (c : Int), false), x4, none, some (lrow row, false), none], h⟩ = .ok (lrow (stepR M c row), true) ⟨[p, some (.int n, false), some (lmat M, false), some (.int (c : Int), false), x4, none, some (lrow row, false), none], h⟩ := by
  let f : D → D := fun d => match d with
    | .tup [.int b, .int g] => .int (min2 g ((row[c]?).getD 0 + cell M c b.toNat))
    | _ => .non
  have e : lrow (stepR M c row) = .lst ((enumD 0 (row.map .int)).map f) := by
    unfold lrow stepR
    rw [enum_zip, List.map_map, List.map_map]
    rfl
  rw [e]
  refine WP_eq (WP_compf f ?_)
  show (_ : Prop) ∧ _
  refine ⟨rfl, fun d hd => ?_, ⟨rfl, rfl⟩⟩
  obtain ⟨b, g, hg, rfl⟩ := mem_enum hd
  have hb : b < M.length := by rw [← hr]; exact (List.getElem?_eq_some_iff.mp hg).1
  have hcr : c < row.length := by rw [hr]; exact hc
  have erc : row[c]? = some row[c] := by simp [hcr]
  obtain ⟨r2, er, ec⟩ := cell_at hs hc hb
  refine ⟨_, rfl, ?_⟩
  by_cases q : row[c] + cell M c b < g <;> simp [ev, evs, evo, evp, evc, evi, evf, rdAll, Opd.rd, Opd.raw, Slots.val, Slots.loose, Slots.owns, P.app, tgt, tgts, setAll, wipeD, backD, selF, itemsOf, aAdd, aMin2, ix_lmat er, ix_lrow ec, ix_lrow erc, q, f, min2, erc]
theorem gstep {p x4 : Option (D × Bool)} {M : Mat} {n : Int} {c : Nat} {h : CH} {o : Bool} (hs : sq M) (hc : c < M.length) :
    ev k_law_gaps_2 ⟨[p, some (.int n, false), some (lmat M, o), some (.int (c : Int), false), x4, none, none, none], h⟩ = .ok (lmat (stepM M c), true) ⟨[p, some (.int n, false), some (lmat M, false), some (.int (c : Int), false), x4, none, none, none], h⟩ := by
  let f : D → D := fun d => match d with
    | .lst xs => (match allM D.int? xs with
      | some r => lrow (stepR M c r)
      | none => .non)
    | _ => .non
  have hf : ∀ r : List Int, f (lrow r) = lrow (stepR M c r) := fun r => by
    have e : allM D.int? (r.map .int) = some r := by
      induction r with
      | nil => rfl
      | cons x r ih =>
        rw [List.map_cons]
        unfold allM
        rw [ih]
        rfl
    show (match allM D.int? (r.map .int) with
      | some r => lrow (stepR M c r)
      | none => .non) = _
    rw [e]
  have e : lmat (stepM M c) = .lst ((M.map lrow).map f) := by
    unfold lmat stepM
    rw [List.map_map, List.map_map]
    congr 1
    exact List.map_congr_left fun r _ => (hf r).symm
  rw [e]
  refine WP_eq (WP_compf f ?_)
  have ei : evi (.of (.var 2)) ⟨[p, some (.int n, false), some (lmat M, o), some (.int (c : Int), false), x4, none, none, none], h⟩ = .ok (M.map lrow) ⟨[p, some (.int n, false), some (lmat M, false), some (.int (c : Int), false), x4, none, none, none], h⟩ := by
    cases o <;> rfl
  rw [ei]
  refine ⟨rfl, fun d hd => ?_, ⟨rfl, rfl⟩⟩
  obtain ⟨row, hrow, rfl⟩ := List.mem_map.mp hd
  refine ⟨_, rfl, ?_⟩
  show WP (ev k_law_gaps_1 ⟨[p, some (.int n, false), some (lmat M, false), some (.int (c : Int), false), x4, none, some (lrow row, false), none], h⟩) _
  rw [gstep_in (x3 := none) hs hc (hs row hrow)]
  exact ⟨(hf row).symm, rfl, rfl⟩
end LW

/-! plain: a meadow drawn -/
namespace LW
open Dd
abbrev bnd (d : D) : Prop := ∃ i : Int, d = .int i ∧ 1 ≤ i ∧ i ≤ 99
theorem ints_ex : ∀ {xs : List D}, (∀ x ∈ xs, bnd x) → ∃ r : List Int, xs = r.map .int ∧ ∀ x ∈ r, 1 ≤ x ∧ x ≤ 99
  | [], _ => ⟨[], rfl, fun _ z => nomatch z⟩
  | x :: xs, h => by
    obtain ⟨r, e, q⟩ := ints_ex (xs := xs) fun y hy => h y (List.mem_cons_of_mem _ hy)
    obtain ⟨i, rfl, i1, i2⟩ := h x List.mem_cons_self
    refine ⟨i :: r, by rw [e]; rfl, fun y hy => ?_⟩
    rcases List.mem_cons.mp hy with z | z
    · rw [z]; exact ⟨i1, i2⟩
    · exact q y z
abbrev rowP (N : Nat) (d : D) : Prop := ∃ r : List Int, d = lrow r ∧ r.length = N ∧ ∀ x ∈ r, 1 ≤ x ∧ x ≤ 99
theorem rows_ex {N : Nat} : ∀ {xs : List D}, (∀ x ∈ xs, rowP N x) → ∃ M : Mat, xs = M.map lrow ∧ ∀ r ∈ M, r.length = N ∧ ∀ x ∈ r, 1 ≤ x ∧ x ≤ 99
  | [], _ => ⟨[], rfl, fun _ z => nomatch z⟩
  | x :: xs, h => by
    obtain ⟨M, e, q⟩ := rows_ex (xs := xs) fun y hy => h y (List.mem_cons_of_mem _ hy)
    obtain ⟨r, rfl, i1, i2⟩ := h x List.mem_cons_self
    refine ⟨r :: M, by rw [e]; rfl, fun y hy => ?_⟩
    rcases List.mem_cons.mp hy with z | z
    · rw [z]; exact ⟨i1, i2⟩
    · exact q y z
theorem rng_len {N : Nat} : (rngL 0 N).length = N := by unfold rngL; simp
theorem rng_drop {N c : Nat} {d : D} {r : List D} (h : (rngL 0 N).drop c = d :: r) : c < N ∧ d = .int (c : Int) ∧ r = (rngL 0 N).drop (c + 1) := by
  have hc : c < (rngL 0 N).length := by
    by_cases q : c < (rngL 0 N).length
    · exact q
    · rw [List.drop_eq_nil_of_le (by omega)] at h; cases h
  have e := List.drop_eq_getElem_cons hc
  rw [h] at e
  have e1 := (List.cons.inj e).1
  have e2 := (List.cons.inj e).2
  rw [rng_len] at hc
  refine ⟨hc, ?_, e2⟩
  rw [e1]
  unfold rngL
  simp
/-- a state within the drawing of gaps -/
abbrev sG (l : Nat) (N : Nat) (x2 x3 : Option (D × Bool)) (h : CH) : Sta := ⟨[some (.ref l, false), some (.int (N : Int), false), x2, x3, none, none, none, none], h⟩
theorem ev_rng {l N : Nat} {x2 x3 x4 x5 x6 x7 : Option (D × Bool)} {h : CH} (hN : N ≤ 1000) : evi (.rng1 (.var 1)) ⟨[some (.ref l, false), some (.int (N : Int), false), x2, x3, x4, x5, x6, x7], h⟩ = .ok (rngL 0 N) ⟨[some (.ref l, false), some (.int (N : Int), false), x2, x3, x4, x5, x6, x7], h⟩ := by
  have er : okRng 0 (N : Int) = true := by
    unfold okRng
    exact decide_eq_true (by omega)
  simp [ev, evs, evo, evp, evc, evi, evf, rdAll, Opd.rd, Opd.raw, Slots.val, Slots.loose, Slots.owns, P.app, tgt, tgts, setAll, wipeD, backD, selF, itemsOf, er]
theorem draw6 {l N : Nat} {h : CH} {m : Int} (hl : l < h.length) (hN : N ≤ 1000) : WP (ev k_law_gaps_6 (sG l N none none (hp h l m))) fun d s' => ∃ M m2, d = (lmat M, true) ∧ s' = sG l N none none (hp h l m2) ∧ M.length = N ∧ ∀ r ∈ M, r.length = N ∧ ∀ x ∈ r, 1 ≤ x ∧ x ≤ 99 := by
  refine draws (Pd := rowP N) rfl ?_
  rw [ev_rng hN]
  refine ⟨rfl, rfl, fun d _ m => ⟨_, rfl, ?_⟩, fun xs m2 e q => ?_⟩
  · show WP (ev k_law_gaps_5 ⟨[some (.ref l, false), some (.int (N : Int), false), none, none, some (d, false), none, none, none], hp h l m⟩) _
    refine draws (Pd := bnd) rfl ?_
    rw [ev_rng hN]
    refine ⟨rfl, rfl, fun d2 _ m => ⟨_, rfl, ?_⟩, fun xs m2 e q => ?_⟩
    · obtain ⟨k, m2, hk, ek⟩ := take_ex (n := m) (far := 9) hl (by decide) (by decide)
      simp [ev, evs, evo, evp, evc, evi, evf, rdAll, Opd.rd, Opd.raw, Slots.val, Slots.loose, Slots.owns, P.app, tgt, tgts, setAll, wipeD, backD, selF, itemsOf, ek, aAdd]
      exact ⟨⟨_, rfl, by omega, by omega⟩, m2, rfl⟩
    · obtain ⟨r, er, b⟩ := ints_ex q
      rw [rng_len] at e
      refine ⟨⟨r, by rw [er]; rfl, by rw [← e, er, List.length_map], b⟩, ⟨m2, rfl⟩, rfl⟩
  · obtain ⟨M, eM, b⟩ := rows_ex q
    rw [rng_len] at e
    exact ⟨M, m2, by rw [eM]; rfl, rfl, by rw [← e, eM, List.length_map], b⟩
theorem draw4 {l N : Nat} {h : CH} {m : Int} {M : Mat} (hl : l < h.length) (hM : M.length = N) (hr : ∀ r ∈ M, r.length = N) : WP (ev k_law_gaps_4 (sG l N (some (lmat M, true)) none (hp h l m))) fun d s' => ∃ M2 m2, d = (lmat M2, true) ∧ s' = sG l N (some (lmat M, false)) none (hp h l m2) ∧ M2.length = N ∧ ∀ r ∈ M2, r.length = N ∧ ∀ x ∈ r, 1 ≤ x ∧ x ≤ 99 := by
  refine draws (Pd := rowP N) rfl ?_
  have ei : evi (.of (.var 2)) (sG l N (some (lmat M, true)) none (hp h l m)) = .ok (M.map lrow) (sG l N (some (lmat M, false)) none (hp h l m)) := rfl
  rw [ei]
  refine ⟨rfl, rfl, fun d hd m => ⟨_, rfl, ?_⟩, fun xs m2 e q => ?_⟩
  · obtain ⟨row, hrow, rfl⟩ := List.mem_map.mp hd
    show WP (ev k_law_gaps_3 ⟨[some (.ref l, false), some (.int (N : Int), false), some (lmat M, false), none, none, none, some (lrow row, false), none], hp h l m⟩) _
    refine draws (Pd := bnd) rfl ?_
    have ei : evi (.of (.var 6)) (⟨[some (.ref l, false), some (.int (N : Int), false), some (lmat M, false), none, none, none, some (lrow row, false), none], hp h l m⟩ : Sta) = .ok (row.map .int) ⟨[some (.ref l, false), some (.int (N : Int), false), some (lmat M, false), none, none, none, some (lrow row, false), none], hp h l m⟩ := rfl
    rw [ei]
    refine ⟨rfl, rfl, fun d2 _ m => ⟨_, rfl, ?_⟩, fun xs m2 e q => ?_⟩
    · obtain ⟨k, m2, hk, ek⟩ := take_ex (n := m) (far := 3) hl (by decide) (by decide)
      simp [ev, evs, evo, evp, evc, evi, evf, rdAll, Opd.rd, Opd.raw, Slots.val, Slots.loose, Slots.owns, P.app, tgt, tgts, setAll, wipeD, backD, selF, itemsOf, ek, aSub]
      exact ⟨⟨_, rfl, by omega, by omega⟩, m2, rfl⟩
    · obtain ⟨r, er, b⟩ := ints_ex q
      rw [List.length_map] at e
      refine ⟨⟨r, by rw [er]; rfl, by rw [← hr row hrow, ← e, er, List.length_map], b⟩, ⟨m2, rfl⟩, rfl⟩
  · obtain ⟨M2, eM, b⟩ := rows_ex q
    rw [List.length_map] at e
    exact ⟨M2, m2, by rw [eM]; rfl, rfl, by rw [← hM, ← e, eM, List.length_map], b⟩
/-- gaps that are drawn -/
def gapsQ (h : CH) (l : Nat) (a : D × Bool) (h' : CH) : Prop := ∃ M m, a = (matD M, false) ∧ h' = hp h l m ∧ sq M ∧ 1 ≤ M.length ∧ M.length ≤ 4 ∧ nneg M ∧ strB M = true
theorem gaps_wp {h : CH} {l : Nat} {n : Int} (hl : l < h.length) : WP (F_law_gaps [.ref l] (hp h l n)) (gapsQ h l) := by
  refine WP_def rfl (WP_cons (WP_asg ?_))
  obtain ⟨k, m1, hk, e1⟩ := take_ex (n := n) (far := 4) hl (by decide) (by decide)
  have eN : (1 + (k : Int)) = ((k + 1 : Nat) : Int) := by omega
  simp [ev, evs, evo, evp, evc, evi, evf, rdAll, Opd.rd, Opd.raw, Slots.val, Slots.loose, Slots.owns, P.app, tgt, tgts, setAll, wipeD, backD, selF, itemsOf, e1, aAdd]
  rw [eN]
  generalize hN : k + 1 = N
  have N1 : 1 ≤ N := by omega
  have N4 : N ≤ 4 := by omega
  refine WP_cons (WP_asg (WP_mono (draw6 hl (by omega)) fun d s' q => ?_))
  obtain ⟨M, m2, rfl, rfl, hM, hb⟩ := q
  rw [seqQ_next]
  have rest : ∀ (M : Mat) (o : Bool) (m : Int), M.length = N → (∀ r ∈ M, r.length = N ∧ ∀ x ∈ r, 1 ≤ x ∧ x ≤ 99) → WP (execs (.cons (.fr [3] true (.rng1 (.var 1)) l_law_gaps_0) (.cons (.ret (.prim .tuple (.cons k_law_gaps_0 .nil))) .nil)) (sG l N (some (lmat M, o)) none (hp h l m))) (retQ (gapsQ h l)) := by
    intro M o m hM hb
    have hs : sq M := fun r hr => by rw [(hb r hr).1, hM]
    have hn : nneg M := nneg_of hs fun r hr => (hb r hr).2
    refine WP_cons (WP_fr ?_)
    rw [ev_rng (by omega)]
    refine WP_for (fun left s => ∃ c M o x3, c ≤ N ∧ left = (rngL 0 N).drop c ∧ s = sG l N (some (lmat M, o)) x3 (hp h l m) ∧ M.length = N ∧ sq M ∧ nneg M ∧ tri M c) ⟨0, M, o, none, Nat.zero_le _, rfl, rfl, hM, hs, hn, fun b hb => absurd hb (Nat.not_lt_zero b)⟩ ?_ ?_
    · rintro d r s ⟨c, M, o, x3, hc, e, rfl, hM, hs, hn, ht⟩
      obtain ⟨hcN, rfl, rfl⟩ := rng_drop e.symm
      refine WP_turn ⟨_, rfl, WP_cons (WP_asg ?_)⟩
      show WP (ev k_law_gaps_2 (sG l N (some (lmat M, o)) (some (.int (c : Int), false)) (hp h l m))) _
      rw [gstep hs (by rw [hM]; exact hcN)]
      exact ⟨c + 1, stepM M c, true, _, hcN, rfl, rfl, by rw [step_len, hM], step_sq hs, step_nneg hs (by rw [hM]; exact hcN) hn, step_tri hs (by rw [hM]; exact hcN) hn ht⟩
    · rintro s ⟨c, M, o, x3, hc, e, rfl, hM, hs, hn, ht⟩
      have ec : c = N := by
        have := congrArg List.length e
        rw [List.length_drop, rng_len] at this
        simp at this
        omega
      rw [seqQ_next]
      refine WP_cons (WP_ret (fun _ z => nomatch z) ?_)
      refine WP_prim1 (fun _ z => nomatch z) ?_
      refine WP_compf (fun d => match d with
        | .lst xs => .tup xs
        | _ => .non) ?_
      have ei : evi (.of (.var 2)) (sG l N (some (lmat M, o)) x3 (hp h l m)) = .ok (M.map lrow) (sG l N (some (lmat M, false)) x3 (hp h l m)) := by
        cases o <;> rfl
      rw [ei]
      refine ⟨rfl, fun d hd => ?_, ?_⟩
      · obtain ⟨row, hrow, rfl⟩ := List.mem_map.mp hd
        exact ⟨_, rfl, rfl, rfl, rfl⟩
      · refine ⟨(matD M, false), ?_, M, m, rfl, rfl, hs, by omega, by omega, hn, strB_of hs (by rw [hM, ← ec]; exact ht)⟩
        have e2 : (M.map lrow).map (fun d => match d with
          | .lst xs => D.tup xs
          | _ => .non) = M.map rowD := by
          rw [List.map_map]
          rfl
        rw [e2]
        rfl
  refine WP_cons (WP_ite ?_)
  obtain ⟨k8, m3, hk8, e8⟩ := take_ex (n := m2) (far := 8) hl (by decide) (by decide)
  by_cases q : k8 = 0
  · subst q
    simp [ev, evs, evo, evp, evc, evi, evf, rdAll, Opd.rd, Opd.raw, Slots.val, Slots.loose, Slots.owns, P.app, tgt, tgts, setAll, wipeD, backD, selF, itemsOf, e8, aEq, eqD_int]
    refine WP_cons (WP_asg (WP_mono (draw4 hl hM fun r hr => (hb r hr).1) fun d s' q => ?_))
    obtain ⟨M2, m4, rfl, rfl, hM2, hb2⟩ := q
    rw [seqQ_next]
    refine WP_nil ?_
    rw [seqQ_next]
    exact rest M2 true m4 hM2 hb2
  · simp [ev, evs, evo, evp, evc, evi, evf, rdAll, Opd.rd, Opd.raw, Slots.val, Slots.loose, Slots.owns, P.app, tgt, tgts, setAll, wipeD, backD, selF, itemsOf, e8, aEq, eqD_int, q]
    refine WP_nil ?_
    rw [seqQ_next]
    exact rest M true m3 hM hb
end LW

/-! plain: shut stretches and a meadow drawn -/
namespace LW
open Dd
theorem adj_snoc : ∀ {ps : List (Int × Int)} {p : Int × Int}, adjB ps = true → (∀ q, ps.getLast? = some q → q.2 < p.1) → adjB (ps ++ [p]) = true
  | [], _, _, _ => rfl
  | [a], p, _, h => by
    have := h a rfl
    simp [adjB, this]
  | a :: b :: r, p, h, hl => by
    have e : adjB (a :: b :: r) = (decide (a.2 < b.1) && adjB (b :: r)) := rfl
    rw [e, Bool.and_eq_true] at h
    have ih := adj_snoc (ps := b :: r) (p := p) h.2 fun q hq => hl q (by simpa using hq)
    show (decide (a.2 < b.1) && adjB (b :: r ++ [p])) = true
    rw [h.1, ih]
    rfl
theorem ix_last {xs : List D} {d : D} : aIx [.lst (xs ++ [d]), .int (-1)] = some (d, false) := by
  have e : getI (xs ++ [d]) (-1 : Int) = some d := by
    unfold getI ixD
    rw [if_neg (by decide), if_pos (by rw [List.length_append, List.length_singleton]; omega)]
    show (xs ++ [d])[((-1 : Int) + ((xs ++ [d]).length : Int)).toNat]? = _
    have e2 : ((-1 : Int) + ((xs ++ [d]).length : Int)).toNat = xs.length := by
      rw [List.length_append, List.length_singleton]; omega
    rw [e2]
    simp
  show (getI (xs ++ [d]) (-1 : Int)).map _ = _
  rw [e]
  rfl
/-- stretches drawn one behind another -/
structure Shs (ps : List (Int × Int)) (b : Int) : Prop where
  rg : ∀ p ∈ ps, 0 ≤ p.1 ∧ p.1 < p.2 ∧ p.2 ≤ b
  ad : adjB ps = true
  hi : b ≤ 50 * (ps.length : Int)
  lo : 0 ≤ b
def shutsQ (h : CH) (l : Nat) (a : D × Bool) (h' : CH) : Prop := ∃ ps m b, a = (.tup (ps.map stD), false) ∧ h' = hp h l m ∧ Shs ps b ∧ ps.length ≤ 4
def shI (h : CH) (l : Nat) (left : List D) (s : Sta) : Prop := ∃ ps b m x, s = ⟨[some (.ref l, false), some (.int 0, false), x, some (.lst (ps.map stD), true), some (.int b, false)], hp h l m⟩ ∧ Shs ps b ∧ ps.length + left.length ≤ 4
theorem shuts_wp {h : CH} {l : Nat} {n : Int} (hl : l < h.length) : WP (F_law_shuts [.ref l, .int 0] (hp h l n)) (shutsQ h l) := by
  refine WP_def rfl (WP_cons (WP_par ?_))
  simp [ev, evs, evo, evp, evc, evi, evf, rdAll, Opd.rd, Opd.raw, Slots.val, Slots.loose, Slots.owns, P.app, tgt, tgts, setAll, wipeD, backD, selF, itemsOf]
  refine WP_cons (WP_fr ?_)
  obtain ⟨k, m1, hk, e1⟩ := take_ex (n := n) (far := 5) hl (by decide) (by decide)
  have ei : aIx [.lst [.int 0, .int 1, .int 2, .int 3, .int 4], .int (k : Int)] = some (.int (k : Int), false) := by
    have : k = 0 ∨ k = 1 ∨ k = 2 ∨ k = 3 ∨ k = 4 := by omega
    rcases this with rfl | rfl | rfl | rfl | rfl <;> rfl
  have er : okRng 0 (k : Int) = true := by
    unfold okRng
    exact decide_eq_true (by omega)
  simp [ev, evs, evo, evp, evc, evi, evf, rdAll, Opd.rd, Opd.raw, Slots.val, Slots.loose, Slots.owns, P.app, tgt, tgts, setAll, wipeD, backD, selF, itemsOf, e1, ei, er]
  refine WP_for (shI h l) ⟨[], 0, m1, none, rfl, ⟨(fun _ z => nomatch z), rfl, by decide, by decide⟩, by rw [rng_len]; simp; omega⟩ ?_ ?_
  · rintro d r s ⟨ps, b, m, x, rfl, sh, hlen⟩
    refine WP_turn ⟨_, rfl, WP_cons (WP_asg ?_)⟩
    obtain ⟨k1, m2, hk1, e2⟩ := take_ex (n := m) (far := 14) hl (by decide) (by decide)
    simp [ev, evs, evo, evp, evc, evi, evf, rdAll, Opd.rd, Opd.raw, Slots.val, Slots.loose, Slots.owns, P.app, tgt, tgts, setAll, wipeD, backD, selF, itemsOf, e2, aAdd]
    refine WP_cons (WP_exp ?_)
    obtain ⟨k2, m3, hk2, e3⟩ := take_ex (n := m2) (far := 6) hl (by decide) (by decide)
    have hz : ps.length < 16777216 := by simp at hlen; omega
    simp [ev, evs, evo, evp, evc, evi, evf, rdAll, Opd.rd, Opd.raw, Slots.val, Slots.loose, Slots.owns, P.app, tgt, tgts, setAll, wipeD, backD, selF, itemsOf, e3, aAdd, Opd.isL, chg, MOp.app, hz]
    refine WP_cons (WP_asg ?_)
    have e4 : aIx [.lst (ps.map stD ++ [.tup [.int (b + 1 + (k1 : Int)), .int (b + 1 + (k1 : Int) + 1 + (k2 : Int))]]), .int (-1)] = some (.tup [.int (b + 1 + (k1 : Int)), .int (b + 1 + (k1 : Int) + 1 + (k2 : Int))], false) := ix_last
    have e5 : aIx [.tup [.int (b + 1 + (k1 : Int)), .int (b + 1 + (k1 : Int) + 1 + (k2 : Int))], .int 1] = some (.int (b + 1 + (k1 : Int) + 1 + (k2 : Int)), false) := rfl
    simp [ev, evs, evo, evp, evc, evi, evf, rdAll, Opd.rd, Opd.raw, Slots.val, Slots.loose, Slots.owns, P.app, tgt, tgts, setAll, wipeD, backD, selF, itemsOf, aNeg, e4, e5]
    refine WP_nil ?_
    refine ⟨ps ++ [(b + 1 + (k1 : Int), b + 1 + (k1 : Int) + 1 + (k2 : Int))], b + 1 + (k1 : Int) + 1 + (k2 : Int), m3, _, by rw [List.map_append]; rfl, ⟨fun p hp => ?_, adj_snoc sh.ad fun q hq => ?_, ?_, ?_⟩, ?_⟩
    · have lo := sh.lo
      rcases List.mem_append.mp hp with z | z
      · have := sh.rg p z
        omega
      · rw [List.mem_singleton.mp z]
        simp only
        omega
    · have := sh.rg q (List.mem_of_getLast? hq)
      simp only
      omega
    · have := sh.hi
      rw [List.length_append, List.length_singleton]
      omega
    · have := sh.lo
      omega
    · rw [List.length_append, List.length_singleton]
      simp at hlen
      omega
  · rintro s ⟨ps, b, m, x, rfl, sh, hlen⟩
    rw [seqQ_next]
    refine WP_cons (WP_ret (fun _ z => nomatch z) ?_)
    simp [ev, evs, evo, evp, evc, evi, evf, rdAll, Opd.rd, Opd.raw, Slots.val, Slots.loose, Slots.owns, P.app, tgt, tgts, setAll, wipeD, backD, selF, itemsOf, aTuple]
    exact ⟨ps, m, b, rfl, rfl, sh, by simpa using hlen⟩
theorem shs_ok {ps : List (Int × Int)} {b : Int} (s : Shs ps b) (h : ps.length ≤ 4) : shutsOk (.tup (ps.map stD)) = true := by
  have e1 : (ps.map stD).all strechOk = true := by
    rw [List.all_map, List.all_eq_true]
    intro p hp
    have q := s.rg p hp
    have hb := s.hi
    have h1 : 0 ≤ p.1 := q.1
    have h2 : p.1 ≤ 9999 := by omega
    have h3 : 0 ≤ p.2 := by omega
    have h4 : p.2 ≤ 9999 := by omega
    show strechOk (stD p) = true
    simp [strechOk, stD, isIn, h1, h2, h3, h4, q.2.1]
  have e2 : adjD (ps.map stD) = true := by
    unfold adjD
    rw [pairs_map]
    exact s.ad
  have e3 : ((ps.map stD).length : Int) ≤ 4 := by rw [List.length_map]; omega
  have e4 : (ps.length : Int) ≤ 4 := by omega
  simp [shutsOk, e1, e2, e4]
theorem mat_rows {M : Mat} (hs : sq M) (hn : nneg M) : (M.map rowD).all (rowOk M.length) = true := by
  rw [List.all_map, List.all_eq_true]
  intro r hr
  have hb := all_of_nneg hs hn r hr
  have hl := hs r hr
  show rowOk M.length (rowD r) = true
  have e : (r.map D.int).all (isIn 1 99) = true := by
    rw [List.all_map, List.all_eq_true]
    intro x hx
    have := hb x hx
    show isIn 1 99 (.int x) = true
    simp [isIn, this.1, this.2]
  simp only [rowD, rowOk, e, List.length_map, hl, decide_true, Bool.and_self]
theorem mat_of_map : ∀ M : Mat, allM rowOf (M.map rowD) = some M
  | [] => rfl
  | r :: M => by
    have e : allM D.int? (r.map .int) = some r := by
      induction r with
      | nil => rfl
      | cons x r ih =>
        rw [List.map_cons]
        unfold allM
        rw [ih]
        rfl
    rw [List.map_cons]
    unfold allM
    rw [mat_of_map M]
    have e2 : rowOf (rowD r) = some r := e
    rw [e2]
theorem mat_ok {M : Mat} (hs : sq M) (h1 : 1 ≤ M.length) (h4 : M.length ≤ 4) (hn : nneg M) (hb : strB M = true) : gapsOk (matD M) = true := by
  have e := mat_rows hs hn
  have c1 : decide (1 ≤ (M.length : Int)) = true := decide_eq_true (by omega)
  have c2 : decide ((M.length : Int) ≤ 4) = true := decide_eq_true (by omega)
  show (decide (1 ≤ ((M.map rowD).length : Int)) && decide (((M.map rowD).length : Int) ≤ 4) && (M.map rowD).all (rowOk (M.map rowD).length) && strD (M.map rowD)) = true
  rw [List.length_map, c1, c2, e]
  unfold strD
  rw [mat_of_map]
  exact hb
/-- a meadow drawn -/
def meaQ (h : CH) (l : Nat) (a : D × Bool) (h' : CH) : Prop := ∃ (r k : Int) (M : Mat) (ps : List (Int × Int)) (b m : Int), a = (.tup [.int r, .int k, matD M, .tup (ps.map stD)], false) ∧ h' = hp h l m ∧ sq M ∧ M.length ≤ 4 ∧ ps.length ≤ 4 ∧ meadowOk (.tup [.int r, .int k, matD M, .tup (ps.map stD)]) = true
theorem five {a b c d e : Int} {k : Nat} (hk : (k : Int) < 5) (P : Int → Prop) (h : P a ∧ P b ∧ P c ∧ P d ∧ P e) : ∃ x, aIx [.lst [.int a, .int b, .int c, .int d, .int e], .int (k : Int)] = some (.int x, false) ∧ P x := by
  have : k = 0 ∨ k = 1 ∨ k = 2 ∨ k = 3 ∨ k = 4 := by omega
  obtain ⟨h1, h2, h3, h4, h5⟩ := h
  rcases this with rfl | rfl | rfl | rfl | rfl
  · exact ⟨a, rfl, h1⟩
  · exact ⟨b, rfl, h2⟩
  · exact ⟨c, rfl, h3⟩
  · exact ⟨d, rfl, h4⟩
  · exact ⟨e, rfl, h5⟩
theorem meadow_wp {h : CH} {l : Nat} {n : Int} (hl : l < h.length) : WP (F_law_meadow [.ref l] (hp h l n)) (meaQ h l) := by
  refine WP_def rfl (WP_cons (WP_asg ?_))
  obtain ⟨k, m1, hk, e1⟩ := take_ex (n := n) (far := 5) hl (by decide) (by decide)
  obtain ⟨r, er, r1, r2⟩ := five (a := 2) (b := 1) (c := 3) (d := 8) (e := 0) hk (fun x => 0 ≤ x ∧ x ≤ 8) (by decide)
  simp [ev, evs, evo, evp, evc, evi, evf, rdAll, Opd.rd, Opd.raw, Slots.val, Slots.loose, Slots.owns, P.app, tgt, tgts, setAll, wipeD, backD, selF, itemsOf, e1, er]
  refine WP_cons (WP_ret (fun _ z => nomatch z) ?_)
  obtain ⟨k2, m2, hk2, e2⟩ := take_ex (n := m1) (far := 5) hl (by decide) (by decide)
  obtain ⟨q, eq, q1, q2⟩ := five (a := 2) (b := 0) (c := 1) (d := 5) (e := 60) hk2 (fun x => 0 ≤ x ∧ x ≤ 60) (by decide)
  obtain ⟨ga, gh, eg, M, m3, rfl, rfl, hs, M1, M4, hn, hb⟩ := WP_ex (gaps_wp (n := m2) hl)
  obtain ⟨sa, sh, es, ps, m4, b, rfl, rfl, hS, hlen⟩ := WP_ex (shuts_wp (n := m3) hl)
  simp [ev, evs, evo, evp, evc, evi, evf, rdAll, Opd.rd, Opd.raw, Slots.val, Slots.loose, Slots.owns, P.app, tgt, tgts, setAll, wipeD, backD, selF, itemsOf, e2, eq, eg, es]
  refine ⟨r, q, M, ps, b, m4, rfl, rfl, hs, M4, hlen, ?_⟩
  have g1 := mat_ok hs M1 M4 hn hb
  have g2 := shs_ok hS hlen
  simp [meadowOk, isIn, r1, r2, q1, q2, g1, g2]
end LW

/-! plain: things otherwise -/
namespace LW
open Dd
mutual
/-- how wide and deep the tuples are -/
def ms : D → Nat
  | .tup xs => max xs.length (mss xs + 1)
  | _ => 0
def mss : List D → Nat
  | [] => 0
  | x :: xs => max (ms x) (mss xs)
end
theorem mss_le : ∀ {xs : List D} {k : Nat}, (∀ x ∈ xs, ms x ≤ k) → mss xs ≤ k
  | [], _, _ => Nat.zero_le _
  | x :: xs, k, h => by
    show max (ms x) (mss xs) ≤ k
    have h1 := h x List.mem_cons_self
    have h2 := mss_le (xs := xs) fun y hy => h y (List.mem_cons_of_mem _ hy)
    omega
theorem le_mss : ∀ {xs : List D} {x : D}, x ∈ xs → ms x ≤ mss xs
  | y :: xs, x, h => by
    show ms x ≤ max (ms y) (mss xs)
    rcases List.mem_cons.mp h with z | z
    · rw [z]; omega
    · have := le_mss z; omega
def gd (k : Nat) (d : D) : Prop := d.pure = true ∧ ms d ≤ k
theorem gd.mono {j k : Nat} {d : D} (h : gd j d) (l : j ≤ k) : gd k d := ⟨h.1, Nat.le_trans h.2 l⟩
theorem gd_tup {k : Nat} {xs : List D} (hl : xs.length ≤ k + 1) (h : ∀ x ∈ xs, gd k x) : gd (k + 1) (.tup xs) := by
  refine ⟨?_, ?_⟩
  · show D.pures xs = true
    rw [D.pures_all, List.all_eq_true]
    exact fun x hx => (h x hx).1
  · show max xs.length (mss xs + 1) ≤ k + 1
    have := mss_le fun x hx => (h x hx).2
    omega
theorem gd_of {k : Nat} {xs : List D} (h : gd k (.tup xs)) : xs.length ≤ k ∧ 1 ≤ k ∧ ∀ x ∈ xs, gd (k - 1) x := by
  have h2 : max xs.length (mss xs + 1) ≤ k := h.2
  refine ⟨by omega, by omega, fun x hx => ⟨pure_tup h.1 x hx, ?_⟩⟩
  have := le_mss hx
  omega
theorem gd_lst {k : Nat} {xs : List D} (h : ∀ x ∈ xs, x.pure = true) : gd k (.lst xs) := by
  refine ⟨?_, Nat.zero_le _⟩
  show D.pures xs = true
  rw [D.pures_all, List.all_eq_true]
  exact h
theorem ix_mem {xs : List D} {k : Nat} (h : (k : Int) < (xs.length : Int)) : ∃ d, d ∈ xs ∧ aIx [.lst xs, .int (k : Int)] = some (d, false) := by
  have hk : k < xs.length := by omega
  exact ⟨xs[k], List.getElem_mem hk, ix_lst (by simp [hk])⟩
theorem ix_memT {xs : List D} {k : Nat} (h : (k : Int) < (xs.length : Int)) : ∃ d, d ∈ xs ∧ aIx [.tup xs, .int (k : Int)] = some (d, false) := by
  have hk : k < xs.length := by omega
  exact ⟨xs[k], List.getElem_mem hk, ix_tup (by simp [hk])⟩
def oddL : List D := [.non, .bl true, .bl false, .int (-1), .int 1000000000000000000000000000000, .str "", .str "a", .str "1", .tup [], .lst [], .dct [] [], .lst [.tup []], .tup [.tup []], .tup [.int 0], .lst [.int 0], .dct [.int 0] [.int 1], .tup [.bl true, .bl true]]
theorem odd_gd : ∀ d ∈ oddL, gd 2 d := by
  unfold oddL
  simp only [List.mem_cons, List.not_mem_nil, or_false]
  rintro d (rfl | rfl | rfl | rfl | rfl | rfl | rfl | rfl | rfl | rfl | rfl | rfl | rfl | rfl | rfl | rfl | rfl) <;> exact ⟨rfl, by decide⟩
/-- a thing told, and the pot -/
def gdQ (h : CH) (l k : Nat) (a : D × Bool) (h' : CH) : Prop := ∃ d o m, a = (d, o) ∧ h' = hp h l m ∧ gd k d
theorem odd_wp {h : CH} {l : Nat} {n : Int} (hl : l < h.length) : WP (F_law_odd [.ref l] (hp h l n)) (gdQ h l 2) := by
  refine WP_def rfl (WP_cons (WP_asg ?_))
  have e30 : aPow [.int 10, .int 30] = some (.int 1000000000000000000000000000000, false) := by rfl
  have el : ∀ s : Sta, WP (ev (.lst (.cons (.lit .non) (.cons (.lit (.bl true)) (.cons (.lit (.bl false)) (.cons (.prim .neg (.cons (.lit (.int 1)) .nil)) (.cons (.prim .pow (.cons (.lit (.int 10)) (.cons (.lit (.int 30)) .nil))) (.cons (.lit (.str "")) (.cons (.lit (.str "a")) (.cons (.lit (.str "1")) (.cons (.tup .nil) (.cons (.lst .nil) (.cons .emp (.cons (.lst (.cons (.tup .nil) .nil)) (.cons (.tup (.cons (.tup .nil) .nil)) (.cons (.tup (.cons (.lit (.int 0)) .nil)) (.cons (.lst (.cons (.lit (.int 0)) .nil)) (.cons (.dct1 (.lit (.int 0)) (.lit (.int 1))) (.cons (.tup (.cons (.lit (.bl true)) (.cons (.lit (.bl true)) .nil))) .nil)))))))))))))))))) s) fun d s' => d = (.lst oddL, true) ∧ s' = s := by
    intro s
    simp [ev, evs, evo, evp, evc, evi, evf, rdAll, Opd.rd, Opd.raw, Slots.val, Slots.loose, Slots.owns, P.app, tgt, tgts, setAll, wipeD, backD, selF, itemsOf, aNeg, e30, oddL]
  refine WP_mono (el _) fun d s' q => ?_
  obtain ⟨rfl, rfl⟩ := q
  rw [seqQ_next]
  refine WP_cons (WP_ret (fun _ z => nomatch z) ?_)
  obtain ⟨k, m1, hk, e1⟩ := take_ex (n := n) (far := (oddL.length : Int)) hl (by decide) (by decide)
  obtain ⟨d, hd, ed⟩ := ix_mem hk
  have elen : aLen [.lst oddL] = some (.int (oddL.length : Int), false) := rfl
  simp [ev, evs, evo, evp, evc, evi, evf, rdAll, Opd.rd, Opd.raw, Slots.val, Slots.loose, Slots.owns, P.app, tgt, tgts, setAll, wipeD, backD, selF, itemsOf, elen, e1, ed]
  exact ⟨d, false, m1, rfl, rfl, odd_gd d hd⟩
end LW

/-! plain: a thing bent -/
namespace LW
open Dd
theorem mem_cut {xs : List D} {lo hi : Option Int} {x : D} (h : x ∈ cutD xs lo hi) : x ∈ xs := by
  unfold cutD at h
  exact List.mem_of_mem_drop (List.mem_of_mem_take h)
theorem cut_le (xs : List D) (lo hi : Option Int) : (cutD xs lo hi).length ≤ xs.length := cut_len xs lo hi
theorem cut_tup {xs : List D} {lo hi : Option Int} : cutP (.tup xs) lo hi = some (.tup (cutD xs lo hi), false) := rfl
theorem cut_head {xs : List D} {k : Nat} (h : k ≤ xs.length) : cutD xs none (some (k : Int)) = xs.take k := by
  have e : ¬ ((k : Int) < 0) := by omega
  simp [cutD, sIxD, e, Nat.min_eq_left h]
theorem cut_tail {xs : List D} {k : Nat} (h : k ≤ xs.length) : cutD xs (some (k : Int)) none = xs.drop k := by
  have e : ¬ ((k : Int) < 0) := by omega
  have e2 : (xs.drop k).take (xs.length - k) = xs.drop k := List.take_of_length_le (by simp)
  simp [cutD, sIxD, e, Nat.min_eq_left h, e2]
theorem cut_tail1 {xs : List D} {k : Nat} (h : k + 1 ≤ xs.length) : cutD xs (some ((k : Int) + 1)) none = xs.drop (k + 1) := by
  have e : ((k : Int) + 1) = ((k + 1 : Nat) : Int) := by omega
  rw [e]
  exact cut_tail h
theorem cut_last (xs : List D) : (cutD xs (some (-1)) none).length ≤ 1 := by
  unfold cutD sIxD
  rw [List.length_take, List.length_drop]
  simp
  omega
theorem cut_one {xs : List D} {k : Nat} : (cutD xs (some (k : Int)) (some ((k : Int) + 1))).length ≤ 1 := by
  have e : ¬ ((k : Int) < 0) := by omega
  have e2 : ¬ ((k : Int) + 1 < 0) := by omega
  have e3 : ((k : Int) + 1).toNat = k + 1 := by omega
  unfold cutD
  rw [List.length_take]
  simp only [sIxD, if_neg e, if_neg e2, e3, Int.toNat_natCast]
  omega
theorem add_tup {a b : List D} (h : a.length + b.length ≤ 16777216) : aAdd [.tup a, .tup b] = some (.tup (a ++ b), false) := by
  show (if a.length + b.length ≤ SZ then some (D.tup (a ++ b), false) else none) = _
  rw [if_pos h]
theorem gd_app {k : Nat} {a b : List D} (hl : a.length + b.length ≤ k + 1) (ha : ∀ x ∈ a, gd k x) (hb : ∀ x ∈ b, gd k x) : gd (k + 1) (.tup (a ++ b)) :=
  gd_tup (by rw [List.length_append]; exact hl) fun x hx => (List.mem_append.mp hx).elim (ha x) (hb x)
def retG (h : CH) (l k : Nat) (f : Flow) (s : Sta) : Prop := ∃ d o, f = .ret d o ∧ gdQ h l k (d, o) s.h
theorem bent_wp {h : CH} {l : Nat} (hl : l < h.length) : ∀ (f k : Nat) (x : D) (n : Int), gd k x → k < f → k ≤ 1000 → WP (F_law_bent f [.ref l, x] (hp h l n)) (gdQ h l (k + 2))
  | 0, k, x, n, _, hf, _ => absurd hf (Nat.not_lt_zero k)
  | f + 1, k, x, n, hx, hf, hk => by
    by_cases qt : ∃ xs, x = .tup xs
    · obtain ⟨xs, rfl⟩ := qt
      obtain ⟨g1, g2, g3⟩ := gd_of hx
      refine WP_def rfl (WP_cons (WP_ite ?_))
      simp [ev, evs, evo, evp, evc, evi, evf, rdAll, Opd.rd, Opd.raw, Slots.val, Slots.loose, Slots.owns, P.app, tgt, tgts, setAll, wipeD, backD, selF, itemsOf, aIsi, isiD, isiB]
      refine WP_nil ?_
      rw [seqQ_next]
      refine WP_cons (WP_asg ?_)
      obtain ⟨way, m1, hw, e1⟩ := take_ex (n := n) (far := 12) hl (by decide) (by decide)
      simp [ev, evs, evo, evp, evc, evi, evf, rdAll, Opd.rd, Opd.raw, Slots.val, Slots.loose, Slots.owns, P.app, tgt, tgts, setAll, wipeD, backD, selF, itemsOf, e1]
      refine WP_cons (WP_ite ?_)
      -- where the first words of the choice are told
      have first : ∀ m : Int, WP (ev (.prim .ix (.cons (.lst (.cons (.fn "_law_odd" F_law_odd (.cons (.var 0) .nil)) (.cons (.prim .list (.cons (.var 1) .nil)) (.cons (.prim .add (.cons (.var 1) (.cons (.tup (.cons (.fn "_law_odd" F_law_odd (.cons (.var 0) .nil)) .nil)) .nil))) (.cons (.prim .add (.cons (.var 1) (.cons (.slc (.var 1) (.cons (.prim .neg (.cons (.lit (.int 1)) .nil)) .nil) .nil) .nil))) .nil))))) (.cons (.fn "_law_take" F_law_take (.cons (.var 0) (.cons (.lit (.int 4)) .nil))) .nil))) ⟨[some (.ref l, false), some (.tup xs, false), some (.int (way : Int), false), none], hp h l m⟩) fun d s' => gdQ h l (k + 2) d s'.h := by
        intro m
        obtain ⟨_, _, eo1, d1, o1, m1, rfl, rfl, gd1⟩ := WP_ex (odd_wp (n := m) hl)
        obtain ⟨_, _, eo2, d2, o2, m2, rfl, rfl, gd2⟩ := WP_ex (odd_wp (n := m1) hl)
        obtain ⟨w, m3, hw4, e4⟩ := take_ex (n := m2) (far := 4) hl (by decide) (by decide)
        have a1 : aAdd [.tup xs, .tup [d2]] = some (.tup (xs ++ [d2]), false) := add_tup (by simp; omega)
        have a2 : aAdd [.tup xs, .tup (cutD xs (some (-1)) none)] = some (.tup (xs ++ cutD xs (some (-1)) none), false) := add_tup (by have := cut_last xs; omega)
        obtain ⟨r, hr, er⟩ := ix_mem (xs := [d1, .lst xs, .tup (xs ++ [d2]), .tup (xs ++ cutD xs (some (-1)) none)]) (k := w) (by simpa using hw4)
        simp [ev, evs, evo, evp, evc, evi, evf, rdAll, Opd.rd, Opd.raw, Slots.val, Slots.loose, Slots.owns, P.app, tgt, tgts, setAll, wipeD, backD, selF, itemsOf, eo1, eo2, aList, a1, cut_tup, a2, aNeg, e4, er]
        refine ⟨r, false, m3, rfl, rfl, ?_⟩
        simp only [List.mem_cons, List.not_mem_nil, or_false] at hr
        rcases hr with rfl | rfl | rfl | rfl
        · exact gd1.mono (by omega)
        · exact gd_lst (pure_tup hx.1)
        · refine gd_app (k := k + 1) (by simp; omega) (fun y hy => (g3 y hy).mono (by omega)) fun y hy => ?_
          rw [List.mem_singleton.mp hy]
          exact gd2.mono (by omega)
        · refine gd_app (k := k + 1) (by have := cut_last xs; omega) (fun y hy => (g3 y hy).mono (by omega)) fun y hy => (g3 y (mem_cut hy)).mono (by omega)
      by_cases q0 : way = 0
      · subst q0
        simp [ev, evs, evo, evp, evc, evi, evf, rdAll, Opd.rd, Opd.raw, Slots.val, Slots.loose, Slots.owns, P.app, tgt, tgts, setAll, wipeD, backD, selF, itemsOf, aEq, eqD_int]
        refine WP_cons (WP_ret (fun _ z => nomatch z) ?_)
        exact WP_mono (first m1) fun d s' q => q
      · by_cases qe : xs = []
        · subst qe
          simp [ev, evs, evo, evp, evc, evi, evf, rdAll, Opd.rd, Opd.raw, Slots.val, Slots.loose, Slots.owns, P.app, tgt, tgts, setAll, wipeD, backD, selF, itemsOf, aEq, eqD_int, q0]
          refine WP_cons (WP_ret (fun _ z => nomatch z) ?_)
          exact WP_mono (first m1) fun d s' q => q
        · have ee : xs.isEmpty = false := by
            cases xs with
            | nil => exact absurd rfl qe
            | cons _ _ => rfl
          simp [ev, evs, evo, evp, evc, evi, evf, rdAll, Opd.rd, Opd.raw, Slots.val, Slots.loose, Slots.owns, P.app, tgt, tgts, setAll, wipeD, backD, selF, itemsOf, aEq, eqD_int, q0, qe, ee]
          refine WP_nil ?_
          rw [seqQ_next]
          refine WP_cons (WP_asg ?_)
          have hpos : 0 < (xs.length : Int) := by
            cases xs with
            | nil => exact absurd rfl qe
            | cons _ _ => simp only [List.length_cons]; omega
          obtain ⟨at_, m2, ha, e2⟩ := take_ex (n := m1) (far := (xs.length : Int)) hl hpos (by omega)
          simp [ev, evs, evo, evp, evc, evi, evf, rdAll, Opd.rd, Opd.raw, Slots.val, Slots.loose, Slots.owns, P.app, tgt, tgts, setAll, wipeD, backD, selF, itemsOf, aLen, e2]
          have hat : at_ < xs.length := by omega
          have c1 : cutD xs none (some (at_ : Int)) = xs.take at_ := cut_head (by omega)
          have c2 : cutD xs (some ((at_ : Int) + 1)) none = xs.drop (at_ + 1) := cut_tail1 (by omega)
          have c3 : cutD xs (some (at_ : Int)) none = xs.drop at_ := cut_tail (by omega)
          have gt : ∀ y ∈ xs.take at_, gd (k + 1) y := fun y hy => (g3 y (List.mem_of_mem_take hy)).mono (by omega)
          have gdr : ∀ j, ∀ y ∈ xs.drop j, gd (k + 1) y := fun j y hy => (g3 y (List.mem_of_mem_drop hy)).mono (by omega)
          refine WP_cons (WP_ite ?_)
          by_cases q1 : way = 1
          · subst q1
            simp [ev, evs, evo, evp, evc, evi, evf, rdAll, Opd.rd, Opd.raw, Slots.val, Slots.loose, Slots.owns, P.app, tgt, tgts, setAll, wipeD, backD, selF, itemsOf, aEq, eqD_int]
            refine WP_cons (WP_ret (fun _ z => nomatch z) ?_)
            have a3 : aAdd [.tup (xs.take at_), .tup (xs.drop (at_ + 1))] = some (.tup (xs.take at_ ++ xs.drop (at_ + 1)), false) := add_tup (by simp; omega)
            have a5 : aAdd [.int (at_ : Int), .int 1] = some (.int ((at_ : Int) + 1), false) := rfl
            simp [ev, evs, evo, evp, evc, evi, evf, rdAll, Opd.rd, Opd.raw, Slots.val, Slots.loose, Slots.owns, P.app, tgt, tgts, setAll, wipeD, backD, selF, itemsOf, cut_tup, c1, c2, a3, a5]
            exact ⟨_, false, m2, rfl, rfl, gd_app (by simp; omega) gt (gdr _)⟩
          · have q1' : ¬ ((way : Int) = 1) := by omega
            simp [ev, evs, evo, evp, evc, evi, evf, rdAll, Opd.rd, Opd.raw, Slots.val, Slots.loose, Slots.owns, P.app, tgt, tgts, setAll, wipeD, backD, selF, itemsOf, aEq, eqD_int, q1, q1']
            refine WP_nil ?_
            rw [seqQ_next]
            refine WP_cons (WP_ite ?_)
            by_cases q2 : way = 2
            · subst q2
              simp [ev, evs, evo, evp, evc, evi, evf, rdAll, Opd.rd, Opd.raw, Slots.val, Slots.loose, Slots.owns, P.app, tgt, tgts, setAll, wipeD, backD, selF, itemsOf, aEq, eqD_int]
              refine WP_cons (WP_ret (fun _ z => nomatch z) ?_)
              have l1 := cut_one (xs := xs) (k := at_)
              have a3 : aAdd [.tup (xs.take at_), .tup (cutD xs (some (at_ : Int)) (some ((at_ : Int) + 1)))] = some (.tup (xs.take at_ ++ cutD xs (some (at_ : Int)) (some ((at_ : Int) + 1))), false) := add_tup (by simp; omega)
              have a4 : aAdd [.tup (xs.take at_ ++ cutD xs (some (at_ : Int)) (some ((at_ : Int) + 1))), .tup (xs.drop at_)] = some (.tup (xs.take at_ ++ cutD xs (some (at_ : Int)) (some ((at_ : Int) + 1)) ++ xs.drop at_), false) := add_tup (by simp; omega)
              have a5 : aAdd [.int (at_ : Int), .int 1] = some (.int ((at_ : Int) + 1), false) := rfl
              simp [ev, evs, evo, evp, evc, evi, evf, rdAll, Opd.rd, Opd.raw, Slots.val, Slots.loose, Slots.owns, P.app, tgt, tgts, setAll, wipeD, backD, selF, itemsOf, cut_tup, c1, c3, a3, a4, a5]
              refine ⟨_, false, m2, rfl, rfl, ?_⟩
              rw [← List.append_assoc]
              refine gd_app (by simp; omega) (fun y hy => ?_) (gdr _)
              rcases List.mem_append.mp hy with z | z
              · exact gt y z
              · exact (g3 y (mem_cut z)).mono (by omega)
            · have q2' : ¬ ((way : Int) = 2) := by omega
              simp [ev, evs, evo, evp, evc, evi, evf, rdAll, Opd.rd, Opd.raw, Slots.val, Slots.loose, Slots.owns, P.app, tgt, tgts, setAll, wipeD, backD, selF, itemsOf, aEq, eqD_int, q2, q2']
              refine WP_nil ?_
              rw [seqQ_next]
              refine WP_cons (WP_ret (fun _ z => nomatch z) ?_)
              obtain ⟨d, hd, ed⟩ := ix_memT ha
              obtain ⟨_, _, eb, r, o, m3, rfl, rfl, gr⟩ := WP_ex (bent_wp hl f (k - 1) d m2 (g3 d hd) (by omega) (by omega))
              have a3 : aAdd [.tup (xs.take at_), .tup [r]] = some (.tup (xs.take at_ ++ [r]), false) := add_tup (by simp; omega)
              have a4 : aAdd [.tup (xs.take at_ ++ [r]), .tup (xs.drop (at_ + 1))] = some (.tup (xs.take at_ ++ [r] ++ xs.drop (at_ + 1)), false) := add_tup (by simp; omega)
              have a5 : aAdd [.int (at_ : Int), .int 1] = some (.int ((at_ : Int) + 1), false) := rfl
              simp [ev, evs, evo, evp, evc, evi, evf, rdAll, Opd.rd, Opd.raw, Slots.val, Slots.loose, Slots.owns, P.app, tgt, tgts, setAll, wipeD, backD, selF, itemsOf, cut_tup, c1, c2, ed, eb, a3, a4, a5]
              refine ⟨_, false, m3, rfl, rfl, ?_⟩
              rw [List.append_cons]
              refine gd_app (by simp; omega) (fun y hy => ?_) (gdr _)
              rcases List.mem_append.mp hy with z | z
              · exact gt y z
              · rw [List.mem_singleton.mp z]
                exact gr.mono (by omega)
    · have nt : aIsi .tuple [x] = some (.bl false, false) := by
        cases x <;> first | rfl | exact absurd ⟨_, rfl⟩ qt | cases hx.1
      have dx : ∀ h : CH, derefD h x = x := fun h => by
        cases x <;> first | rfl | cases hx.1
      refine WP_def rfl (WP_cons (WP_ite ?_))
      simp [ev, evs, evo, evp, evc, evi, evf, rdAll, Opd.rd, Opd.raw, Slots.val, Slots.loose, Slots.owns, P.app, tgt, tgts, setAll, wipeD, backD, selF, itemsOf, dx, nt]
      refine WP_cons (WP_ite ?_)
      have last : ∀ m : Int, WP (execs (.cons (.ret (.fn "_law_odd" F_law_odd (.cons (.var 0) .nil))) .nil) ⟨[some (.ref l, false), some (x, false), none, none], hp h l m⟩) (retG h l (k + 2)) := by
        intro m
        refine WP_cons (WP_ret (fun _ z => nomatch z) ?_)
        obtain ⟨_, _, eo1, d1, o1, m1, rfl, rfl, gd1⟩ := WP_ex (odd_wp (n := m) hl)
        simp [ev, evs, evo, evp, evc, evi, evf, rdAll, Opd.rd, Opd.raw, Slots.val, Slots.loose, Slots.owns, P.app, tgt, tgts, setAll, wipeD, backD, selF, itemsOf, eo1]
        exact ⟨d1, o1, rfl, _, _, m1, rfl, rfl, gd1.mono (by omega)⟩
      have done_ : ∀ {m : Int} {b : Ss} {Q : D × Bool → CH → Prop}, (∀ a h', gdQ h l (k + 2) a h' → Q a h') → WP (execs (.cons (.ret (.fn "_law_odd" F_law_odd (.cons (.var 0) .nil))) .nil) ⟨[some (.ref l, false), some (x, false), none, none], hp h l m⟩) (seqQ b (retQ Q)) := fun {m b Q} w => WP_mono (last m) fun f s' q => by
        obtain ⟨d, o, rfl, q⟩ := q
        exact w _ _ q
      by_cases qi : ∃ i, x = .int i
      · obtain ⟨i, rfl⟩ := qi
        obtain ⟨w, m1, hw, e1⟩ := take_ex (n := n) (far := 3) hl (by decide) (by decide)
        have ew : F_law_whole [.int i] (hp h l n) = .ok (.bl true, false) (hp h l n) := whole_eq2 rfl
        by_cases q0 : 0 < w
        · have q0' : (0 : Int) < (w : Int) := by omega
          simp [ev, evs, evo, evp, evc, evi, evf, rdAll, Opd.rd, Opd.raw, Slots.val, Slots.loose, Slots.owns, P.app, tgt, tgts, setAll, wipeD, backD, selF, itemsOf, ew, e1, aGt, q0, q0']
          refine WP_cons (WP_ret (fun _ z => nomatch z) ?_)
          obtain ⟨w2, m2, hw2, e2⟩ := take_ex (n := m1) (far := 6) hl (by decide) (by decide)
          have e6 : ∃ j : Int, aIx [.lst [.int 1, .int (-1), .int 9, .int 100, .int 9999, .int (-10000)], .int (w2 : Int)] = some (.int j, false) := by
            have : w2 = 0 ∨ w2 = 1 ∨ w2 = 2 ∨ w2 = 3 ∨ w2 = 4 ∨ w2 = 5 := by omega
            rcases this with rfl | rfl | rfl | rfl | rfl | rfl <;> exact ⟨_, rfl⟩
          obtain ⟨j, ej⟩ := e6
          have e4 : aPow [.int 10, .int 4] = some (.int 10000, false) := by rfl
          simp [ev, evs, evo, evp, evc, evi, evf, rdAll, Opd.rd, Opd.raw, Slots.val, Slots.loose, Slots.owns, P.app, tgt, tgts, setAll, wipeD, backD, selF, itemsOf, aNeg, e4, e2, ej, aAdd]
          exact ⟨_, _, m2, rfl, rfl, rfl, Nat.zero_le _⟩
        · have q0' : ¬ ((0 : Int) < (w : Int)) := by omega
          have q0'' : w = 0 := by omega
          simp [ev, evs, evo, evp, evc, evi, evf, rdAll, Opd.rd, Opd.raw, Slots.val, Slots.loose, Slots.owns, P.app, tgt, tgts, setAll, wipeD, backD, selF, itemsOf, ew, e1, aGt, q0, q0', q0'']
          refine WP_nil ?_
          rw [seqQ_next]
          exact done_ fun a h' q => q
      · have ew : F_law_whole [x] (hp h l n) = .ok (.bl false, false) (hp h l n) := by
          rw [whole_eq2 hx.1]
          have : isW x = false := by
            cases x <;> first | rfl | exact absurd ⟨_, rfl⟩ qi
          rw [this]
        simp [ev, evs, evo, evp, evc, evi, evf, rdAll, Opd.rd, Opd.raw, Slots.val, Slots.loose, Slots.owns, P.app, tgt, tgts, setAll, wipeD, backD, selF, itemsOf, ew]
        refine WP_nil ?_
        rw [seqQ_next]
        exact done_ fun a h' q => q
end LW

/-! plain, k02: the first open minute -/
namespace LW
open Dd
def openI (ps : List (Int × Int)) (t : Int) : Int := ps.foldl (fun t p => if p.1 ≤ t ∧ t < p.2 then p.2 else t) t
theorem openI_cons (p : Int × Int) (ps : List (Int × Int)) (t : Int) : openI (p :: ps) t = openI ps (if p.1 ≤ t ∧ t < p.2 then p.2 else t) := rfl
/-- stretches, each behind the one ahead -/
def apart : List (Int × Int) → Prop
  | [] => True
  | p :: ps => p.1 < p.2 ∧ p.2 ≤ p.1 + 6 ∧ (∀ q ∈ ps, p.2 < q.1) ∧ apart ps
def inB (ps : List (Int × Int)) (t : Int) : Bool := ps.any fun p => decide (p.1 ≤ t) && decide (t < p.2)
theorem inB_cons (p : Int × Int) (ps : List (Int × Int)) (t : Int) : inB (p :: ps) t = true ↔ (p.1 ≤ t ∧ t < p.2) ∨ inB ps t = true := by
  unfold inB
  rw [List.any_cons, Bool.or_eq_true, Bool.and_eq_true, decide_eq_true_iff, decide_eq_true_iff]
theorem openI_low : ∀ {ps : List (Int × Int)} {t : Int}, (∀ q ∈ ps, t < q.1) → openI ps t = t
  | [], t, _ => rfl
  | p :: ps, t, h => by
    have := h p List.mem_cons_self
    rw [openI_cons, if_neg (by omega)]
    exact openI_low fun q hq => h q (List.mem_cons_of_mem _ hq)
theorem openI_step : ∀ {ps : List (Int × Int)} {t : Int}, apart ps → inB ps t = true → openI ps (t + 1) = openI ps t ∧ t < openI ps t ∧ openI ps t ≤ t + 6
  | [], t, _, h => by cases h
  | p :: ps, t, ⟨a1, a2, a3, a4⟩, h => by
    rcases (inB_cons p ps t).mp h with c | c
    · have e : openI ps p.2 = p.2 := openI_low a3
      rw [openI_cons, openI_cons, if_pos c, e]
      refine ⟨?_, by omega, by omega⟩
      by_cases c2 : t + 1 < p.2
      · rw [if_pos (by omega), e]
      · rw [if_neg (by omega), show t + 1 = p.2 by omega, e]
    · have ht : p.2 < t := by
        obtain ⟨q, hq, z⟩ := List.any_eq_true.mp c
        rw [Bool.and_eq_true] at z
        have := a3 q hq
        have := of_decide_eq_true z.1
        omega
      rw [openI_cons, openI_cons, if_neg (by omega), if_neg (by omega)]
      exact openI_step a4 c
theorem openI_out : ∀ {ps : List (Int × Int)} {t : Int}, inB ps t = false → openI ps t = t
  | [], t, _ => rfl
  | p :: ps, t, h => by
    have n1 : ¬ (p.1 ≤ t ∧ t < p.2) := fun z => by
      rw [(inB_cons p ps t).mpr (.inl z)] at h
      cases h
    have n2 : inB ps t = false := by
      cases q : inB ps t with
      | false => rfl
      | true =>
        rw [(inB_cons p ps t).mpr (.inr q)] at h
        cases h
    rw [openI_cons, if_neg n1]
    exact openI_out n2
theorem apart_snoc : ∀ {ps : List (Int × Int)} {p : Int × Int}, apart ps → (∀ q ∈ ps, q.2 < p.1) → p.1 < p.2 → p.2 ≤ p.1 + 6 → apart (ps ++ [p])
  | [], p, _, _, h1, h2 => ⟨h1, h2, (fun _ z => nomatch z), trivial⟩
  | a :: ps, p, ⟨a1, a2, a3, a4⟩, hl, h1, h2 => by
    refine ⟨a1, a2, fun q hq => ?_, apart_snoc a4 (fun q hq => hl q (List.mem_cons_of_mem _ hq)) h1 h2⟩
    rcases List.mem_append.mp hq with hq | hq
    · exact a3 q hq
    · rw [List.mem_singleton.mp hq]
      exact hl a List.mem_cons_self
theorem apart_adj : ∀ {ps : List (Int × Int)}, apart ps → adjB ps = true
  | [], _ => rfl
  | [_], _ => rfl
  | a :: b :: r, ⟨a1, a2, a3, a4⟩ => by
    show (decide (a.2 < b.1) && adjB (b :: r)) = true
    rw [decide_eq_true (a3 b List.mem_cons_self), apart_adj a4]
    rfl
section
variable {h : CH}
theorem open_wp {x0 x1 : Option (D × Bool)} {Q : Flow → Sta → Prop} : ∀ (ps : List (Int × Int)) (t : Int) (o3 o4 : Option (D × Bool)), (∀ o3 o4, Q .next ⟨[x0, x1, some (.int (openI ps t), false), o3, o4], h⟩) →
    WP (forL (turnF [3, 4] false l_open_in_0) (ps.map stD) ⟨[x0, x1, some (.int t, false), o3, o4], h⟩) Q
  | [], t, o3, o4, q => q o3 o4
  | p :: ps, t, o3, o4, q => by
    refine WP_bind (o := turnF [3, 4] false l_open_in_0 (stD p) _) ?_
    refine WP_turn ⟨_, rfl, WP_cons (WP_ite ?_)⟩
    have e : openI (p :: ps) t = openI ps (if p.1 ≤ t ∧ t < p.2 then p.2 else t) := rfl
    rw [e] at q
    by_cases h1 : p.1 ≤ t
    · by_cases h2 : t < p.2
      · rw [if_pos ⟨h1, h2⟩] at q
        simp [ev, evs, evo, evp, evc, evi, evf, rdAll, Opd.rd, Opd.raw, Slots.val, Slots.loose, Slots.owns, P.app, tgt, tgts, setAll, wipeD, backD, selF, itemsOf, aLe, aLt, h1, h2, execs, exec]
        exact open_wp ps _ _ _ q
      · rw [if_neg (fun z => h2 z.2)] at q
        simp [ev, evs, evo, evp, evc, evi, evf, rdAll, Opd.rd, Opd.raw, Slots.val, Slots.loose, Slots.owns, P.app, tgt, tgts, setAll, wipeD, backD, selF, itemsOf, aLe, aLt, h1, h2, execs, exec]
        exact open_wp ps _ _ _ q
    · rw [if_neg (fun z => h1 z.1)] at q
      simp [ev, evs, evo, evp, evc, evi, evf, rdAll, Opd.rd, Opd.raw, Slots.val, Slots.loose, Slots.owns, P.app, tgt, tgts, setAll, wipeD, backD, selF, itemsOf, aLe, aLt, h1, execs, exec]
      exact open_wp ps _ _ _ q
theorem open_eq {ps : List (Int × Int)} {t : Int} : F_open_in [.tup (ps.map stD), .int t] h = .ok (.int (openI ps t), false) h := by
  refine WP_eq (WP_def rfl (WP_cons (WP_asg ?_)))
  simp [ev, evs, evo, evp, evc, evi, evf, rdAll, Opd.rd, Opd.raw, Slots.val, Slots.loose, Slots.owns, P.app, tgt, tgts, setAll, wipeD, backD, selF, itemsOf]
  refine WP_cons (WP_fr ?_)
  show WP (forL (turnF [3, 4] false l_open_in_0) (ps.map stD) ⟨[some (.tup (ps.map stD), false), some (.int t, false), some (.int t, false), none, none], h⟩) _
  refine open_wp ps t none none fun o3 o4 => ?_
  rw [seqQ_next]
  exact WP_cons (WP_retv rfl ⟨rfl, rfl⟩)
end
/-! ### stepped minute by minute -/
def hitF (t : Int) : D → Bool
  | .tup [.int a, .int b] => decide (a ≤ t) && decide (t < b)
  | _ => false
def begF : D → D
  | .tup [a, _] => a
  | _ => .non
theorem hits_any (t : Int) : ∀ ps : List (Int × Int), ((ps.map stD).all fun d => !hitF t d) = !inB ps t
  | [] => rfl
  | p :: ps => by
    have e : hitF t (stD p) = (decide (p.1 ≤ t) && decide (t < p.2)) := rfl
    rw [List.map_cons, List.all_cons, hits_any t ps, e]
    unfold inB
    rw [List.any_cons, Bool.not_or]
theorem ints_nil (is : List Int) : aNe [.lst (is.map .int), .lst []] = some (.bl (!is.isEmpty), false) := by
  show (eqD (.lst (is.map .int)) (.lst [])).map (fun b => (D.bl (!b), false)) = _
  rw [eqD_nil]
  rfl
theorem due_0 {x1 : Option (D × Bool)} {ps : List (Int × Int)} {t : Int} {h : CH} : ∃ is : List Int, is.isEmpty = !inB ps t ∧ ev k_law_due_0 ⟨[some (.tup (ps.map stD), false), x1, some (.int t, false), none, none], h⟩ = .ok (.lst (is.map .int), true) ⟨[some (.tup (ps.map stD), false), x1, some (.int t, false), none, none], h⟩ := by
  obtain ⟨is, e1, e2⟩ := filt_ints (ps.map stD) (hitF t) begF fun d hd => by
    obtain ⟨p, _, rfl⟩ := List.mem_map.mp hd
    exact ⟨p.1, rfl⟩
  refine ⟨is, by rw [e2, hits_any], ?_⟩
  rw [← e1]
  refine WP_eq (WP_compk (hitF t) begF ?_)
  have hm : ∀ d ∈ ps.map stD, ∃ p : Int × Int, d = stD p := fun d hd => by
    obtain ⟨p, _, rfl⟩ := List.mem_map.mp hd
    exact ⟨p, rfl⟩
  generalize ps.map stD = PD at hm
  have e0 : evi (.of (.var 0)) (⟨[some (.tup PD, false), x1, some (.int t, false), none, none], h⟩ : Sta) = .ok PD ⟨[some (.tup PD, false), x1, some (.int t, false), none, none], h⟩ := by
    simp [ev, evs, evo, evp, evc, evi, evf, rdAll, Opd.rd, Opd.raw, Slots.val, Slots.loose, Slots.owns, P.app, tgt, tgts, setAll, wipeD, backD, selF, itemsOf]
  rw [e0]
  show (_ : Prop) ∧ _
  refine ⟨rfl, fun d hd => ?_, ⟨rfl, rfl⟩⟩
  obtain ⟨p, rfl⟩ := hm d hd
  refine ⟨_, rfl, ?_⟩
  have ef : begF (stD p) = .int p.1 := rfl
  have eh : hitF t (stD p) = (decide (p.1 ≤ t) && decide (t < p.2)) := rfl
  rw [ef, eh]
  by_cases c1 : p.1 ≤ t
  · by_cases c2 : t < p.2
    · simp [ev, evs, evo, evp, evc, evi, evf, rdAll, Opd.rd, Opd.raw, Slots.val, Slots.loose, Slots.owns, P.app, tgt, tgts, setAll, wipeD, backD, selF, itemsOf, aLe, aLt, c1, c2]
    · simp [ev, evs, evo, evp, evc, evi, evf, rdAll, Opd.rd, Opd.raw, Slots.val, Slots.loose, Slots.owns, P.app, tgt, tgts, setAll, wipeD, backD, selF, itemsOf, aLe, aLt, c1, c2]
  · simp [ev, evs, evo, evp, evc, evi, evf, rdAll, Opd.rd, Opd.raw, Slots.val, Slots.loose, Slots.owns, P.app, tgt, tgts, setAll, wipeD, backD, selF, itemsOf, aLe, aLt, c1]
theorem due_eq {ps : List (Int × Int)} {m : Int} {h : CH} (ap : apart ps) : F_law_due [.tup (ps.map stD), .int m] h = .ok (.int (openI ps m), false) h := by
  refine WP_eq (WP_def rfl (WP_cons (WP_asg ?_)))
  have de : ∀ (t : Int), ∃ is : List Int, is.isEmpty = !inB ps t ∧ ev k_law_due_0 ⟨[some (.tup (ps.map stD), false), some (.int m, false), some (.int t, false), none, none], h⟩ = .ok (.lst (is.map .int), true) ⟨[some (.tup (ps.map stD), false), some (.int m, false), some (.int t, false), none, none], h⟩ := fun t => due_0
  generalize D.tup (ps.map stD) = PD at de ⊢
  simp [ev, evs, evo, evp, evc, evi, evf, rdAll, Opd.rd, Opd.raw, Slots.val, Slots.loose, Slots.owns, P.app, tgt, tgts, setAll, wipeD, backD, selF, itemsOf]
  refine WP_cons (WP_whl (k := 7) (fun k s => ∃ t : Int, s = ⟨[some (PD, false), some (.int m, false), some (.int t, false), none, none], h⟩ ∧ openI ps t = openI ps m ∧ openI ps t ≤ t + (k : Int)) (by decide) ⟨m, rfl, rfl, ?_⟩ ?_)
  · cases q : inB ps m with
    | true =>
      have := (openI_step ap q).2.2
      omega
    | false =>
      rw [openI_out q]
      omega
  · rintro k s ⟨t, rfl, e1, e2⟩
    obtain ⟨is, i1, i2⟩ := de t
    have ne := ints_nil is
    rw [i1, Bool.not_not] at ne
    generalize is.map D.int = isD at i2 ne
    simp [ev, evs, evo, evp, evc, evi, evf, rdAll, Opd.rd, Opd.raw, Slots.val, Slots.loose, Slots.owns, P.app, tgt, tgts, setAll, wipeD, backD, selF, itemsOf, i2, ne]
    cases q : inB ps t with
    | false =>
      refine .inl ⟨rfl, WP_cons (WP_retv rfl ?_)⟩
      rw [openI_out q] at e1
      exact ⟨by rw [e1], rfl⟩
    | true =>
      obtain ⟨s1, s2, s3⟩ := openI_step ap q
      obtain ⟨j, rfl⟩ : ∃ j, k = j + 1 := ⟨k - 1, by omega⟩
      refine .inr ⟨rfl, j, rfl, WP_cons (WP_asg ?_)⟩
      simp [ev, evs, evo, evp, evc, evi, evf, rdAll, Opd.rd, Opd.raw, Slots.val, Slots.loose, Slots.owns, P.app, tgt, tgts, setAll, wipeD, backD, selF, itemsOf, aAdd]
      exact WP_nil ⟨rfl, t + 1, rfl, by rw [s1, e1], by rw [s1]; omega⟩
end LW

/-! plain, k02: stretches drawn from a minute on; what is told -/
namespace LW
open Dd
structure Shs2 (now : Int) (ps : List (Int × Int)) (b : Int) : Prop where
  ap : apart ps
  rg : ∀ p ∈ ps, 0 ≤ p.1 ∧ p.1 < p.2 ∧ p.2 ≤ b
  hi : b ≤ now + 20 * (ps.length : Int)
  lo : 0 ≤ b
def shutsQ2 (h : CH) (l : Nat) (now : Int) (a : D × Bool) (h' : CH) : Prop := ∃ ps m b, a = (.tup (ps.map stD), false) ∧ h' = hp h l m ∧ Shs2 now ps b ∧ ps.length ≤ 4
def shI2 (h : CH) (l : Nat) (now : Int) (left : List D) (s : Sta) : Prop := ∃ ps b m x, s = ⟨[some (.ref l, false), some (.int now, false), x, some (.lst (ps.map stD), true), some (.int b, false)], hp h l m⟩ ∧ Shs2 now ps b ∧ ps.length + left.length ≤ 4
theorem shuts_wp2 {h : CH} {l : Nat} {n now : Int} (hl : l < h.length) (h0 : 0 ≤ now) : WP (F_law_shuts [.ref l, .int now] (hp h l n)) (shutsQ2 h l now) := by
  refine WP_def rfl (WP_cons (WP_par ?_))
  simp [ev, evs, evo, evp, evc, evi, evf, rdAll, Opd.rd, Opd.raw, Slots.val, Slots.loose, Slots.owns, P.app, tgt, tgts, setAll, wipeD, backD, selF, itemsOf]
  refine WP_cons (WP_fr ?_)
  obtain ⟨k, m1, hk, e1⟩ := take_ex (n := n) (far := 5) hl (by decide) (by decide)
  have ei : aIx [.lst [.int 0, .int 1, .int 2, .int 3, .int 4], .int (k : Int)] = some (.int (k : Int), false) := by
    have : k = 0 ∨ k = 1 ∨ k = 2 ∨ k = 3 ∨ k = 4 := by omega
    rcases this with rfl | rfl | rfl | rfl | rfl <;> rfl
  have er : okRng 0 (k : Int) = true := by
    unfold okRng
    exact decide_eq_true (by omega)
  simp [ev, evs, evo, evp, evc, evi, evf, rdAll, Opd.rd, Opd.raw, Slots.val, Slots.loose, Slots.owns, P.app, tgt, tgts, setAll, wipeD, backD, selF, itemsOf, e1, ei, er]
  refine WP_for (shI2 h l now) ⟨[], now, m1, none, rfl, ⟨trivial, (fun _ z => nomatch z), by simp, h0⟩, by rw [rng_len]; simp; omega⟩ ?_ ?_
  · rintro d r s ⟨ps, b, m, x, rfl, sh, hlen⟩
    refine WP_turn ⟨_, rfl, WP_cons (WP_asg ?_)⟩
    obtain ⟨k1, m2, hk1, e2⟩ := take_ex (n := m) (far := 14) hl (by decide) (by decide)
    simp [ev, evs, evo, evp, evc, evi, evf, rdAll, Opd.rd, Opd.raw, Slots.val, Slots.loose, Slots.owns, P.app, tgt, tgts, setAll, wipeD, backD, selF, itemsOf, e2, aAdd]
    refine WP_cons (WP_exp ?_)
    obtain ⟨k2, m3, hk2, e3⟩ := take_ex (n := m2) (far := 6) hl (by decide) (by decide)
    have hz : ps.length < 16777216 := by simp at hlen; omega
    simp [ev, evs, evo, evp, evc, evi, evf, rdAll, Opd.rd, Opd.raw, Slots.val, Slots.loose, Slots.owns, P.app, tgt, tgts, setAll, wipeD, backD, selF, itemsOf, e3, aAdd, Opd.isL, chg, MOp.app, hz]
    refine WP_cons (WP_asg ?_)
    have e4 : aIx [.lst (ps.map stD ++ [.tup [.int (b + 1 + (k1 : Int)), .int (b + 1 + (k1 : Int) + 1 + (k2 : Int))]]), .int (-1)] = some (.tup [.int (b + 1 + (k1 : Int)), .int (b + 1 + (k1 : Int) + 1 + (k2 : Int))], false) := ix_last
    have e5 : aIx [.tup [.int (b + 1 + (k1 : Int)), .int (b + 1 + (k1 : Int) + 1 + (k2 : Int))], .int 1] = some (.int (b + 1 + (k1 : Int) + 1 + (k2 : Int)), false) := rfl
    simp [ev, evs, evo, evp, evc, evi, evf, rdAll, Opd.rd, Opd.raw, Slots.val, Slots.loose, Slots.owns, P.app, tgt, tgts, setAll, wipeD, backD, selF, itemsOf, aNeg, e4, e5]
    refine WP_nil ?_
    refine ⟨ps ++ [(b + 1 + (k1 : Int), b + 1 + (k1 : Int) + 1 + (k2 : Int))], b + 1 + (k1 : Int) + 1 + (k2 : Int), m3, _, by rw [List.map_append]; rfl, ⟨apart_snoc sh.ap (fun q hq => ?_) (by simp only; omega) (by simp only; omega), fun p hp => ?_, ?_, ?_⟩, ?_⟩
    · have := sh.rg q hq
      simp only
      omega
    · have lo := sh.lo
      rcases List.mem_append.mp hp with z | z
      · have := sh.rg p z
        omega
      · rw [List.mem_singleton.mp z]
        simp only
        omega
    · have := sh.hi
      rw [List.length_append, List.length_singleton]
      omega
    · have := sh.lo
      omega
    · rw [List.length_append, List.length_singleton]
      simp at hlen
      omega
  · rintro s ⟨ps, b, m, x, rfl, sh, hlen⟩
    rw [seqQ_next]
    refine WP_cons (WP_ret (fun _ z => nomatch z) ?_)
    simp [ev, evs, evo, evp, evc, evi, evf, rdAll, Opd.rd, Opd.raw, Slots.val, Slots.loose, Slots.owns, P.app, tgt, tgts, setAll, wipeD, backD, selF, itemsOf, aTuple]
    exact ⟨ps, m, b, rfl, rfl, sh, by simpa using hlen⟩
theorem shs_ok2 {now : Int} {ps : List (Int × Int)} {b : Int} (s : Shs2 now ps b) (hn : now ≤ 9900) (h : ps.length ≤ 4) : shutsOk (.tup (ps.map stD)) = true := by
  have e1 : (ps.map stD).all strechOk = true := by
    rw [List.all_map, List.all_eq_true]
    intro p hp
    have q := s.rg p hp
    have hb := s.hi
    have h1 : 0 ≤ p.1 := q.1
    have h2 : p.1 ≤ 9999 := by omega
    have h3 : 0 ≤ p.2 := by omega
    have h4 : p.2 ≤ 9999 := by omega
    show strechOk (stD p) = true
    simp [strechOk, stD, isIn, h1, h2, h3, h4, q.2.1]
  have e2 : adjD (ps.map stD) = true := by
    unfold adjD
    rw [pairs_map]
    exact apart_adj s.ap
  have e3 : ((ps.map stD).length : Int) ≤ 4 := by rw [List.length_map]; omega
  have e4 : (ps.length : Int) ≤ 4 := by omega
  simp [shutsOk, e1, e2, e4]
/-! ### what is told -/
theorem check_mea {x : D} {h : CH} (hx : x.pure = true) : F_check_meadow [x] h = if meadowOk x = true then .ok (.non, false) h else .exc ⟨"NoMeadow", none⟩ h := by
  have e := meadow_eq (h := h) hx
  cases q : meadowOk x with
  | true =>
    rw [q] at e
    simp [F_check_meadow, b_check_meadow, fnOf, Dd.execs, Dd.exec, ev, evs, evo, evp, evc, evi, evf, rdAll, Opd.rd, Opd.raw, Slots.val, Slots.loose, Slots.owns, P.app, tgt, tgts, setAll, wipeD, backD, selF, e]
  | false =>
    rw [q] at e
    simp [F_check_meadow, b_check_meadow, fnOf, Dd.execs, Dd.exec, ev, evs, evo, evp, evc, evi, evf, rdAll, Opd.rd, Opd.raw, Slots.val, Slots.loose, Slots.owns, P.app, tgt, tgts, setAll, wipeD, backD, selF, e]
theorem told_no {x : D} {t : Int} {h : CH} (hx : x.pure = true) (hm : meadowOk x = false) : F_law_told [x, .int t] h = .ok (.str "meadow", false) h := by
  have e := check_mea (h := h) hx
  rw [hm, if_neg Bool.false_ne_true] at e
  have e1 : F_open_from [x, .int t] h = .exc ⟨"NoMeadow", none⟩ h := by simp [F_open_from, b_open_from, fnOf, Dd.execs, Dd.exec, ev, evs, evo, evp, evc, evi, evf, rdAll, Opd.rd, Opd.raw, Slots.val, Slots.loose, Slots.owns, P.app, tgt, tgts, setAll, wipeD, backD, selF, e]
  have ei : I_law_told [x, .int t] h = .exc ⟨"NoMeadow", none⟩ h := by simp [I_law_told, b_law_told, fnOf, Dd.execs, Dd.exec, ev, evs, evo, evp, evc, evi, evf, rdAll, Opd.rd, Opd.raw, Slots.val, Slots.loose, Slots.owns, P.app, tgt, tgts, setAll, wipeD, backD, selF, e1]
  unfold F_law_told tryD
  rw [ei]
  rfl
theorem told_yes {a b c : D} {ps : List (Int × Int)} {t : Int} {h : CH} (hx : D.pure (.tup [a, b, c, .tup (ps.map stD)]) = true) (hm : meadowOk (.tup [a, b, c, .tup (ps.map stD)]) = true) : F_law_told [.tup [a, b, c, .tup (ps.map stD)], .int t] h = .ok (.int (openI ps t), false) h := by
  have e := check_mea (h := h) hx
  rw [hm, if_pos rfl] at e
  have i3 : aIx [.tup [a, b, c, .tup (ps.map stD)], .int 3] = some (.tup (ps.map stD), false) := rfl
  have eo := open_eq (ps := ps) (t := t) (h := h)
  have dx : ∀ h, derefD h (.tup [a, b, c, .tup (ps.map stD)]) = .tup [a, b, c, .tup (ps.map stD)] := fun _ => rfl
  have dp : ∀ h, derefD h (.tup (ps.map stD)) = .tup (ps.map stD) := fun _ => rfl
  generalize D.tup [a, b, c, .tup (ps.map stD)] = x at e i3 dx ⊢
  generalize D.tup (ps.map stD) = pD at i3 eo dp
  have e1 : F_open_from [x, .int t] h = .ok (.int (openI ps t), false) h := by
    refine WP_eq (WP_def rfl (WP_cons (WP_exp ?_)))
    simp [ev, evs, evo, evp, evc, evi, evf, rdAll, Opd.rd, Opd.raw, Slots.val, Slots.loose, Slots.owns, P.app, tgt, tgts, setAll, wipeD, backD, selF, itemsOf, e]
    refine WP_cons (WP_ret (fun _ z => nomatch z) ?_)
    simp [ev, evs, evo, evp, evc, evi, evf, rdAll, Opd.rd, Opd.raw, Slots.val, Slots.loose, Slots.owns, P.app, tgt, tgts, setAll, wipeD, backD, selF, itemsOf, i3, eo, dx, dp]
  have ei : I_law_told [x, .int t] h = .ok (.int (openI ps t), false) h := by simp [I_law_told, b_law_told, fnOf, Dd.execs, Dd.exec, ev, evs, evo, evp, evc, evi, evf, rdAll, Opd.rd, Opd.raw, Slots.val, Slots.loose, Slots.owns, P.app, tgt, tgts, setAll, wipeD, backD, selF, e1]
  unfold F_law_told tryD
  rw [ei]
/-! ### sizes -/
theorem wt_far {i : Int} (h : i.natAbs ≤ 1000000000000000000000000000) : wt (.int i) ≤ 40 := by
  have hT : T31 = 10000000000000000000000000000000 := rfl
  show 32 + i.natAbs / T31 ≤ 40
  have : i.natAbs / T31 = 0 := Nat.div_eq_of_lt (by rw [hT]; omega)
  omega
theorem int_repr {i : Int} (h : i.natAbs ≤ 1000000000000000000000000000) : ∃ z, aRepr [.int i] = some (.str z, false) := by
  have g : gs 1 1000 (.int i) := ⟨rfl, by show 0 ≤ 1; omega, by have := wt_far h; omega⟩
  exact g.repr (by omega) (by omega)
theorem open_far {ps : List (Int × Int)} {t : Int} (ap : apart ps) (h : t.natAbs ≤ 200000000000000000000000000) : (openI ps t).natAbs ≤ 1000000000000000000000000000 := by
  cases q : inB ps t with
  | true =>
    obtain ⟨_, a, b⟩ := openI_step ap q
    omega
  | false =>
    rw [openI_out q]
    omega
theorem gd_int {k : Nat} {i : Int} : gd k (.int i) := ⟨rfl, Nat.zero_le _⟩
theorem gd_mea {r q : Int} {M : Mat} {ps : List (Int × Int)} (hs : sq M) (h4 : M.length ≤ 4) (hp : ps.length ≤ 4) : gd 6 (.tup [.int r, .int q, matD M, .tup (ps.map stD)]) := by
  refine gd_tup (k := 5) (by simp) fun x hx => ?_
  simp only [List.mem_cons, List.not_mem_nil, or_false] at hx
  rcases hx with rfl | rfl | rfl | rfl
  · exact gd_int
  · exact gd_int
  · refine gd_tup (k := 4) (by simp; omega) fun y hy => ?_
    obtain ⟨row, hr, rfl⟩ := List.mem_map.mp hy
    refine gd_tup (k := 3) (by simp [hs row hr]; omega) fun z hz => ?_
    obtain ⟨i, _, rfl⟩ := List.mem_map.mp hz
    exact gd_int
  · refine gd_tup (k := 4) (by simp; omega) fun y hy => ?_
    obtain ⟨p, _, rfl⟩ := List.mem_map.mp hy
    exact ⟨rfl, by show max 2 (max 0 (max 0 0) + 1) ≤ 4; decide⟩
theorem wts_le {a : List D} {w : Nat} (h : ∀ x ∈ a, wt x ≤ w) : wts a ≤ (w + 2) * a.length := by
  induction a with
  | nil => exact Nat.le_refl _
  | cons x a ih =>
    have h1 := h x List.mem_cons_self
    have h2 := ih fun y hy => h y (List.mem_cons_of_mem _ hy)
    show wt x + 2 + wts a ≤ (w + 2) * (a.length + 1)
    rw [Nat.mul_add]
    omega
theorem gs_seq {k w n : Nat} {xs : List D} (h : ∀ x ∈ xs, gs k w x) (hl : xs.length ≤ n) : gs (k + 1) (3 + (w + 2) * n) (.tup xs) := by
  refine gs_tup (fun x hx => ⟨(h x hx).1, (h x hx).2.1⟩) ?_
  have h1 := wts_le (a := xs) (w := w) fun x hx => (h x hx).2.2
  have h2 : (w + 2) * xs.length ≤ (w + 2) * n := Nat.mul_le_mul_left _ hl
  omega
theorem mea_repr {r q : Int} {M : Mat} {ps : List (Int × Int)} (hs : sq M) (h4 : M.length ≤ 4) (hp : ps.length ≤ 4) (hm : meadowOk (.tup [.int r, .int q, matD M, .tup (ps.map stD)]) = true) : ∃ z, aRepr [.tup [.int r, .int q, matD M, .tup (ps.map stD)]] = some (.str z, false) := by
  have gi : ∀ i : Int, i.natAbs ≤ 1000000 → gs 0 40 (.int i) := fun i hi => ⟨rfl, Nat.zero_le _, wt_far (by omega)⟩
  have h : (isIn 0 8 (.int r) && (isIn 0 60 (.int q) && (gapsOk (matD M) && shutsOk (.tup (ps.map stD))))) = true := hm
  simp only [Bool.and_eq_true] at h
  obtain ⟨h1, h2, h3, h4'⟩ := h
  obtain ⟨_, z1, _, _⟩ := isIn_int h1
  obtain ⟨_, z2, _, _⟩ := isIn_int h2
  cases z1
  cases z2
  have h3 : (decide (1 ≤ ((M.map rowD).length : Int)) && decide (((M.map rowD).length : Int) ≤ 4) && (M.map rowD).all (rowOk (M.map rowD).length) && strD (M.map rowD)) = true := h3
  have h4' : (decide (((ps.map stD).length : Int) ≤ 4) && ((ps.map stD).all strechOk && adjD (ps.map stD))) = true := h4'
  simp only [Bool.and_eq_true] at h3 h4'
  have gm : gs 2 (3 + (171 + 2) * 4) (matD M) := gs_seq (k := 1) (fun x hx => by
    obtain ⟨row, hr, rfl⟩ := List.mem_map.mp hx
    have e := hs row hr
    refine (gs_seq (k := 0) (w := 40) (n := 4) (xs := row.map D.int) (fun y hy => ?_) (by rw [List.length_map]; omega)).mono (Nat.le_refl _) (by omega)
    obtain ⟨i, hi, rfl⟩ := List.mem_map.mp hy
    have q := List.all_eq_true.mp h3.1.2 (rowD row) (List.mem_map.mpr ⟨row, hr, rfl⟩)
    have q : (decide (((row.map D.int).length : Int) = ((M.map rowD).length : Int)) && (row.map D.int).all (isIn 1 99)) = true := q
    rw [Bool.and_eq_true] at q
    obtain ⟨_, z, _, _⟩ := isIn_int (List.all_eq_true.mp q.2 (.int i) (List.mem_map.mpr ⟨i, hi, rfl⟩))
    cases z
    exact gi i (by omega)) (by rw [List.length_map]; exact h4)
  have gp : gs 2 (3 + (171 + 2) * 4) (.tup (ps.map stD)) := gs_seq (k := 1) (fun x hx => by
    obtain ⟨p, hp, rfl⟩ := List.mem_map.mp hx
    have q := List.all_eq_true.mp h4'.2.1 (stD p) (List.mem_map.mpr ⟨p, hp, rfl⟩)
    have q : (isIn 0 9999 (.int p.1) && (isIn 0 9999 (.int p.2) && decide (p.1 < p.2))) = true := q
    simp only [Bool.and_eq_true] at q
    obtain ⟨_, z1, _, _⟩ := isIn_int q.1
    obtain ⟨_, z2, _, _⟩ := isIn_int q.2.1
    cases z1
    cases z2
    exact (gs_seq (k := 0) (w := 40) (n := 4) (xs := [.int p.1, .int p.2]) (fun y hy => by
      simp only [List.mem_cons, List.not_mem_nil, or_false] at hy
      rcases hy with rfl | rfl
      · exact gi _ (by omega)
      · exact gi _ (by omega)) (by show 2 ≤ 4; decide)).mono (Nat.le_refl _) (by omega)) (by rw [List.length_map]; exact hp)
  have g : gs 3 (3 + (695 + 2) * 4) (.tup [.int r, .int q, matD M, .tup (ps.map stD)]) := gs_seq (k := 2) (fun x hx => by
    simp only [List.mem_cons, List.not_mem_nil, or_false] at hx
    rcases hx with rfl | rfl | rfl | rfl
    · exact (gi r (by omega)).mono (by omega) (by omega)
    · exact (gi q (by omega)).mono (by omega) (by omega)
    · exact gm
    · exact gp) (by show 4 ≤ 4; decide)
  exact g.repr (by omega) (by omega)
end LW

/-! plain, k02: the law -/
namespace LW
open Dd
theorem str_neS (z : PySem.Str) : aNe [.str z, .str z] = some (.bl false, false) := by
  have e : eqD (.str z) (.str z) = some true := by
    unfold eqD
    simp
  unfold aNe
  simp only [e]
  rfl
/-- a great draw -/
theorem take_gen {h : CH} {l : Nat} {n far : Int} (hl : l < h.length) (e1 : aFdiv [.int n, .int far] = some (.int (n / far), false)) (e2 : aMod [.int n, .int far] = some (.int (n % far), false)) : F_law_take [.ref l, .int far] (hp h l n) = .ok (.int (n % far), false) (hp h l (n / far)) := by
  generalize n / far = x at e1 ⊢
  generalize n % far = y at e2 ⊢
  simp [F_law_take, b_law_take, fnOf, Dd.execs, Dd.exec, ev, evs, evo, evp, evc, evi, evf, rdAll, Opd.rd, Opd.raw, Slots.val, Slots.loose, Slots.owns, P.app, tgt, tgts, setAll, wipeD, backD, selF, aIx, chg, setX, ixD, getI, hl, e1, e2]
theorem take_far {h : CH} {l : Nat} {n : Int} (hl : l < h.length) : ∃ (k : Nat) (m : Int), k < 100000000000000000000000000 ∧ F_law_take [.ref l, .int 100000000000000000000000000] (hp h l n) = .ok (.int (k : Int), false) (hp h l m) := by
  have hf : (0 : Int) < 100000000000000000000000000 := by decide
  have h1 := Int.emod_nonneg n (Int.ne_of_gt hf)
  have h2 := Int.emod_lt_of_pos n hf
  have h3 : (100000000000000000000000000 : Int) < 2 ^ 4000 := by decide +kernel
  have e1 : aFdiv [.int n, .int 100000000000000000000000000] = some (.int (n / 100000000000000000000000000), false) := by
    show (if 0 < (100000000000000000000000000 : Int) ∧ ((100000000000000000000000000 : Int) < 1073741824 ∨ (100000000000000000000000000 : Int) < 2 ^ 4000) then some (D.int (n / 100000000000000000000000000), false) else none) = _
    rw [if_pos ⟨hf, .inr h3⟩]
  have e2 : aMod [.int n, .int 100000000000000000000000000] = some (.int (n % 100000000000000000000000000), false) := by
    show (if 0 < (100000000000000000000000000 : Int) then some (D.int (n % 100000000000000000000000000), false) else none) = _
    rw [if_pos hf]
  have e3 := take_gen (n := n) hl e1 e2
  refine ⟨(n % 100000000000000000000000000).toNat, n / 100000000000000000000000000, by omega, ?_⟩
  rw [Int.toNat_of_nonneg h1]
  exact e3
abbrev sY (ns : List Int) (k : Int) (l : Nat) (xM : D) (x4 x5 x6 x7 : Option (D × Bool)) (H : CH) : Sta := ⟨[some (.scr ns, false), some (.int k, false), some (.ref l, false), some (xM, false), x4, x5, x6, x7], H⟩
/-- one minute asked -/
theorem ask_0 {ns : List Int} {k t u : Int} {l : Nat} {xM pD : D} {z : PySem.Str} {x4 x5 x6 x7 : Option (D × Bool)} {H : CH} {Q : Flow → Sta → Prop} (dM : ∀ h, derefD h xM = xM) (dP : ∀ h, derefD h pD = pD) (i3 : aIx [xM, .int 3] = some (pD, false)) (et : F_law_told [xM, .int t] H = .ok (.int u, false) H) (ed : F_law_due [pD, .int t] H = .ok (.int u, false) H) (rb : aRepr [.int u] = some (.str z, false)) (fin : Q .next (sY ns k l xM x4 (some (.int t, false)) x6 x7 H)) :
    WP (turnF [5] true l_law_0 (.int t) (sY ns k l xM x4 x5 x6 x7 H)) Q := by
  have nz := str_neS z
  refine WP_turn ⟨_, rfl, WP_cons (WP_ite ?_)⟩
  simp [ev, evs, evo, evp, evc, evi, evf, rdAll, Opd.rd, Opd.raw, Slots.val, Slots.loose, Slots.owns, P.app, tgt, tgts, setAll, wipeD, backD, selF, itemsOf, dM, dP, i3, et, ed, rb, nz]
  refine WP_nil ?_
  rw [seqQ_next]
  exact WP_nil fin
def lawI (ns : List Int) (left : List D) (s : Sta) : Prop := (∃ a1 a2 a3 a4 a5 a6 a7 h, s = ⟨[some (.scr ns, false), a1, a2, a3, a4, a5, a6, a7], h⟩) ∧ ∀ d ∈ left, ∃ k : Nat, d = .int (k : Int)
/-- behind the minutes: the bent one -/
theorem law_bent_ {ns : List Int} {k f : Int} {l : Nat} {xM xB : D} {b o : Bool} {z : PySem.Str} {x5 x6 x7 : Option (D × Bool)} {H H2 : CH} {Q : Flow → Sta → Prop} (dM : ∀ h, derefD h xM = xM) (eb : F_law_bent 40 [.ref l, xM] H = .ok (xB, o) H2) (dB : ∀ h, derefD h xB = xB) (rM : aRepr [xM] = some (.str z, false)) (em : F_law_is_meadow [xB] H2 = .ok (.bl b, false) H2) (et : b = false → ∀ t : Int, F_law_told [xB, .int t] H2 = .ok (.str "meadow", false) H2) (fin : ∀ x6 x7, Q .next (sY ns k l xM (some (.int f, false)) x5 x6 x7 H2)) :
    WP (execs (.cons (.par [6, 7] (.cons (.fn "_law_bent" (F_law_bent 40) (.cons (.var 2) (.cons (.var 3) .nil))) (.cons (.prim .repr (.cons (.var 3) .nil)) .nil)))
  (.cons (.ite (.and (.nt (.fn "_law_is_meadow" F_law_is_meadow (.cons (.var 6) .nil))) (.or (.prim .ne (.cons (.fn "_law_told" F_law_told (.cons (.var 6) (.cons (.lit (.int 3)) .nil))) (.cons (.lit (.str "meadow")) .nil))) (.prim .ne (.cons (.fn "_law_told" F_law_told (.cons (.var 6) (.cons (.var 4) .nil))) (.cons (.lit (.str "meadow")) .nil)))))
  (.cons (.ret (.lit (.bl false)))
  .nil)
  .nil)
  (.cons (.ite (.prim .ne (.cons (.prim .repr (.cons (.var 3) .nil)) (.cons (.var 7) .nil)))
  (.cons (.ret (.lit (.bl false)))
  .nil)
  .nil)
  .nil))) (sY ns k l xM (some (.int f, false)) x5 x6 x7 H)) Q := by
  have nz := str_neS z
  have nm := str_neS "meadow"
  generalize F_law_bent 40 = FB at eb ⊢
  refine WP_cons (WP_par ?_)
  simp [ev, evs, evo, evp, evc, evi, evf, rdAll, Opd.rd, Opd.raw, Slots.val, Slots.loose, Slots.owns, P.app, tgt, tgts, setAll, wipeD, backD, selF, itemsOf, evf, dM, eb, rM]
  refine WP_cons (WP_ite ?_)
  cases b with
  | true =>
    cases o <;> simp [ev, evs, evo, evp, evc, evi, evf, rdAll, Opd.rd, Opd.raw, Slots.val, Slots.loose, Slots.owns, P.app, tgt, tgts, setAll, wipeD, backD, selF, itemsOf, dB, em] <;> (refine WP_nil ?_; rw [seqQ_next]; refine WP_cons (WP_ite ?_); simp [ev, evs, evo, evp, evc, evi, evf, rdAll, Opd.rd, Opd.raw, Slots.val, Slots.loose, Slots.owns, P.app, tgt, tgts, setAll, wipeD, backD, selF, itemsOf, dM, rM, nz]; refine WP_nil ?_; rw [seqQ_next]; exact WP_nil (fin _ _))
  | false =>
    have e3 := et rfl 3
    have ef := et rfl f
    cases o <;> simp [ev, evs, evo, evp, evc, evi, evf, rdAll, Opd.rd, Opd.raw, Slots.val, Slots.loose, Slots.owns, P.app, tgt, tgts, setAll, wipeD, backD, selF, itemsOf, dB, em, e3, ef, nm] <;> (refine WP_nil ?_; rw [seqQ_next]; refine WP_cons (WP_ite ?_); simp [ev, evs, evo, evp, evc, evi, evf, rdAll, Opd.rd, Opd.raw, Slots.val, Slots.loose, Slots.owns, P.app, tgt, tgts, setAll, wipeD, backD, selF, itemsOf, dM, rM, nz]; refine WP_nil ?_; rw [seqQ_next]; exact WP_nil (fin _ _))
def farOk (d : D) : Prop := ∃ t : Int, d = .int t ∧ t.natAbs ≤ 200000000000000000000000000
theorem rng_far {m : Int} {n : Nat} (hm : m.natAbs ≤ 1000000) (hn : n ≤ 1000000) : ∀ d ∈ rngL m n, farOk d := fun d hd => by
  unfold rngL at hd
  obtain ⟨k, hk, rfl⟩ := List.mem_map.mp hd
  have := List.mem_range.mp hk
  exact ⟨_, rfl, by omega⟩
/-- the minutes, all -/
theorem law_mins {ns : List Int} {k f : Int} {l : Nat} {xM : D} {x5 x6 x7 : Option (D × Bool)} {H : CH} (hf : f.natAbs ≤ 200000000000000000000000000) : ∃ xs : List D, evi (.of (.prim .add (.cons (.prim .add (.cons (.prim .listrange (.cons (.prim .neg (.cons (.lit (.int 2)) .nil)) (.cons (.lit (.int 90)) .nil))) (.cons (.prim .listrange (.cons (.lit (.int 9890)) (.cons (.lit (.int 9999)) .nil))) .nil))) (.cons (.lst (.cons (.var 4) (.cons (.prim .sub (.cons (.lit (.int 0)) (.cons (.var 4) .nil))) (.cons (.lit (.int 9999)) .nil)))) .nil)))) (sY ns k l xM (some (.int f, false)) x5 x6 x7 H) = .ok xs (sY ns k l xM (some (.int f, false)) x5 x6 x7 H) ∧ ∀ d ∈ xs, farOk d := by
  refine ⟨rngL (-2) 92 ++ rngL 9890 109 ++ [.int f, .int (0 - f), .int 9999], ?_, fun d hd => ?_⟩
  · have r1 : aListrange [.int (-2), .int 90] = some (.lst (rngL (-2) 92), true) := rfl
    have r2 : aListrange [.int 9890, .int 9999] = some (.lst (rngL 9890 109), true) := rfl
    have l1 : (rngL (-2) 92).length = 92 := by unfold rngL; rw [List.length_map, List.length_range]
    have l2 : (rngL 9890 109).length = 109 := by unfold rngL; rw [List.length_map, List.length_range]
    have a1 : aAdd [.lst (rngL (-2) 92), .lst (rngL 9890 109)] = some (.lst (rngL (-2) 92 ++ rngL 9890 109), true) := by
      show (if (rngL (-2) 92).length + (rngL 9890 109).length ≤ SZ then some (D.lst (rngL (-2) 92 ++ rngL 9890 109), true) else none) = _
      rw [if_pos (by rw [l1, l2]; show 92 + 109 ≤ 16777216; omega)]
    have a2 : aAdd [.lst (rngL (-2) 92 ++ rngL 9890 109), .lst [.int f, .int (0 - f), .int 9999]] = some (.lst (rngL (-2) 92 ++ rngL 9890 109 ++ [.int f, .int (0 - f), .int 9999]), true) := by
      show (if (rngL (-2) 92 ++ rngL 9890 109).length + 3 ≤ SZ then some (D.lst (rngL (-2) 92 ++ rngL 9890 109 ++ [.int f, .int (0 - f), .int 9999]), true) else none) = _
      rw [if_pos (by rw [List.length_append, l1, l2]; show 92 + 109 + 3 ≤ 16777216; omega)]
    have n2 : aNeg [.int 2] = some (.int (-2), false) := rfl
    have s2 : aSub [.int 0, .int f] = some (.int (0 - f), false) := rfl
    clear l1 l2
    generalize rngL (-2) 92 ++ rngL 9890 109 ++ [.int f, .int (0 - f), .int 9999] = C at a2 ⊢
    generalize rngL (-2) 92 ++ rngL 9890 109 = B at a1 a2
    generalize rngL (-2) 92 = A1 at r1 a1
    generalize rngL 9890 109 = A2 at r2 a1
    generalize (0 - f) = g at s2 a2
    simp [ev, evs, evo, evp, evc, evi, evf, rdAll, Opd.rd, Opd.raw, Slots.val, Slots.loose, Slots.owns, P.app, tgt, tgts, setAll, wipeD, backD, selF, itemsOf, n2, r1, r2, a1, s2, a2]
  · rcases List.mem_append.mp hd with hd | hd
    · rcases List.mem_append.mp hd with hd | hd
      · exact rng_far (by decide) (by decide) d hd
      · exact rng_far (by decide) (by decide) d hd
    · simp only [List.mem_cons, List.not_mem_nil, or_false] at hd
      rcases hd with rfl | rfl | rfl
      · exact ⟨_, rfl, hf⟩
      · exact ⟨_, rfl, by omega⟩
      · exact ⟨_, rfl, by decide⟩
theorem law_turn {ns : List Int} {k : Nat} {a1 a2 a3 a4 a5 a6 a7 : Option (D × Bool)} {h : CH} {Q : Flow → Sta → Prop} (hq : ∀ s, lawI ns [] s → Q .next s) :
    WP (turnF [1] true l_law_1 (.int (k : Int)) ⟨[some (.scr ns, false), a1, a2, a3, a4, a5, a6, a7], h⟩) Q := by
  refine WP_turn ⟨_, rfl, WP_cons (WP_asg ?_)⟩
  obtain ⟨c, ec⟩ := cell_ex (ns := ns) (k := k) (h := h)
  obtain ⟨n, ep⟩ := pot_ex (c := c) (h := h)
  rw [hp_self] at ep
  have hl : h.length < (h ++ [.lst [.int n]] : CH).length := by simp
  generalize (h ++ [.lst [.int n]] : CH) = H at ep hl
  generalize h.length = l at ep hl
  simp [ev, evs, evo, evp, evc, evi, evf, rdAll, Opd.rd, Opd.raw, Slots.val, Slots.loose, Slots.owns, P.app, tgt, tgts, setAll, wipeD, backD, selF, itemsOf, ec, ep]
  refine WP_cons (WP_asg ?_)
  obtain ⟨_, _, em, r, q, M, ps0, b0, m, rfl, rfl, hs, h4, hps0, ok0⟩ := WP_ex (meadow_wp (n := n) hl)
  simp [ev, evs, evo, evp, evc, evi, evf, rdAll, Opd.rd, Opd.raw, Slots.val, Slots.loose, Slots.owns, P.app, tgt, tgts, setAll, wipeD, backD, selF, itemsOf, em]
  refine WP_cons (WP_asg ?_)
  obtain ⟨k1, m1, hk1, t1⟩ := take_ex (n := m) (far := 3) hl (by decide) (by decide)
  obtain ⟨now, en, n0, n9⟩ : ∃ now : Int, aIx [.lst [.int 0, .int 9900, .int 3], .int (k1 : Int)] = some (.int now, false) ∧ 0 ≤ now ∧ now ≤ 9900 := by
    have : k1 = 0 ∨ k1 = 1 ∨ k1 = 2 := by omega
    rcases this with rfl | rfl | rfl
    · exact ⟨0, rfl, by decide, by decide⟩
    · exact ⟨9900, rfl, by decide, by decide⟩
    · exact ⟨3, rfl, by decide, by decide⟩
  obtain ⟨_, _, es, ps, m2, b, rfl, rfl, sh, hps⟩ := WP_ex (shuts_wp2 (n := m1) hl n0)
  have ok : meadowOk (.tup [.int r, .int q, matD M, .tup (ps.map stD)]) = true := by
    have h1 : (isIn 0 8 (.int r) && (isIn 0 60 (.int q) && (gapsOk (matD M) && shutsOk (.tup (ps0.map stD))))) = true := ok0
    show (isIn 0 8 (.int r) && (isIn 0 60 (.int q) && (gapsOk (matD M) && shutsOk (.tup (ps.map stD))))) = true
    have h2 := shs_ok2 sh n9 hps
    simp only [Bool.and_eq_true] at h1 ⊢
    exact ⟨h1.1, h1.2.1, h1.2.2.1, h2⟩
  have gM := gd_mea (r := r) (q := q) hs h4 hps
  have cut : cutP (.tup [.int r, .int q, matD M, .tup (ps0.map stD)]) none (some 3) = some (.tup [.int r, .int q, matD M], false) := rfl
  have add : aAdd [.tup [.int r, .int q, matD M], .tup [.tup (ps.map stD)]] = some (.tup [.int r, .int q, matD M, .tup (ps.map stD)], false) := by
    show (if 3 + 1 ≤ SZ then some (D.tup [.int r, .int q, matD M, .tup (ps.map stD)], false) else none) = _
    rw [if_pos (by show 3 + 1 ≤ 16777216; decide)]
  obtain ⟨zM, rM⟩ := mea_repr hs h4 hps ok
  have told : ∀ (t : Int) (H : CH), F_law_told [.tup [.int r, .int q, matD M, .tup (ps.map stD)], .int t] H = .ok (.int (openI ps t), false) H := fun t H => told_yes gM.1 ok
  have due : ∀ (t : Int) (H : CH), F_law_due [.tup (ps.map stD), .int t] H = .ok (.int (openI ps t), false) H := fun t H => due_eq sh.ap
  have dM : ∀ h, derefD h (.tup [.int r, .int q, matD M, .tup (ps.map stD)]) = .tup [.int r, .int q, matD M, .tup (ps.map stD)] := fun _ => rfl
  have dP : ∀ h, derefD h (.tup (ps.map stD)) = .tup (ps.map stD) := fun _ => rfl
  have d0 : ∀ h, derefD h (.tup [.int r, .int q, matD M, .tup (ps0.map stD)]) = .tup [.int r, .int q, matD M, .tup (ps0.map stD)] := fun _ => rfl
  have i3 : aIx [.tup [.int r, .int q, matD M, .tup (ps.map stD)], .int 3] = some (.tup (ps.map stD), false) := rfl
  have dC : ∀ h, derefD h (.tup [.int r, .int q, matD M]) = .tup [.int r, .int q, matD M] := fun _ => rfl
  clear ok ok0 em
  generalize D.tup [.int r, .int q, matD M, .tup (ps.map stD)] = xM at add gM rM told dM i3 ⊢
  generalize D.tup [.int r, .int q, matD M] = xC at add cut dC
  generalize D.tup [.int r, .int q, matD M, .tup (ps0.map stD)] = x0 at cut d0 ⊢
  generalize D.tup (ps.map stD) = pD at es add due dP i3
  simp [ev, evs, evo, evp, evc, evi, evf, rdAll, Opd.rd, Opd.raw, Slots.val, Slots.loose, Slots.owns, P.app, tgt, tgts, setAll, wipeD, backD, selF, itemsOf, d0, dC, cut, t1, en, es, add]
  refine WP_cons (WP_asg ?_)
  obtain ⟨k2, m3, hk2, t2⟩ := take_far (n := m2) hl
  have p4 : aPow [.int 10, .int 4] = some (.int 10000, false) := rfl
  have p26 : aPow [.int 10, .int 26] = some (.int 100000000000000000000000000, false) := rfl
  have af : aAdd [.int 10000, .int (k2 : Int)] = some (.int (10000 + (k2 : Int)), false) := rfl
  have hf : (10000 + (k2 : Int)).natAbs ≤ 200000000000000000000000000 := by omega
  generalize (100000000000000000000000000 : Int) = F at t2 p26
  generalize (10000 + (k2 : Int)) = f at af hf
  simp [ev, evs, evo, evp, evc, evi, evf, rdAll, Opd.rd, Opd.raw, Slots.val, Slots.loose, Slots.owns, P.app, tgt, tgts, setAll, wipeD, backD, selF, itemsOf, p4, p26, t2, af]
  refine WP_cons (WP_fr ?_)
  obtain ⟨xs, ei, hx⟩ := law_mins (ns := ns) (k := (k : Int)) (l := l) (xM := xM) (x5 := a5) (x6 := a6) (x7 := a7) (H := hp H l m3) hf
  rw [ei]
  show WP (forL _ _ _) _
  refine WP_for (fun left s => (∃ x5, s = sY ns k l xM (some (.int f, false)) x5 a6 a7 (hp H l m3)) ∧ ∀ d ∈ left, farOk d) ⟨⟨_, rfl⟩, hx⟩ ?_ ?_
  · rintro d left s ⟨⟨x5, rfl⟩, hd⟩
    obtain ⟨t, rfl, ht⟩ := hd d List.mem_cons_self
    obtain ⟨z, rb⟩ := int_repr (open_far sh.ap ht)
    exact ask_0 dM dP i3 (told t _) (due t _) rb ⟨⟨_, rfl⟩, fun e he => hd e (List.mem_cons_of_mem _ he)⟩
  · rintro s ⟨⟨x5, rfl⟩, _⟩
    rw [seqQ_next]
    obtain ⟨_, _, eb, xB, o, m4, rfl, rfl, gB⟩ := WP_ex (bent_wp (n := m3) hl 40 6 xM gM (by decide) (by decide))
    have hB : xB.pure = true := gB.1
    have dB : ∀ h, derefD h xB = xB := fun h => by cases xB <;> first | rfl | cases hB
    have eM := lmeadow_eq (h := hp H l m4) hB
    exact law_bent_ dM eb dB rM eM (fun z t => told_no hB z) fun x6 x7 => hq _ ⟨⟨_, _, _, _, _, _, _, _, rfl⟩, fun _ z => nomatch z⟩
theorem pure_law (ns : List Int) (hn : ns.length ≤ 63) : ∃ h', F_law [.scr ns] [] = .ok (.bl true, false) h' := by
  have w : WP (F_law [.scr ns] []) fun a _ => a = (.bl true, false) := by
    refine WP_def rfl (WP_cons (WP_fr ?_))
    have e1 : ∃ N : Nat, aMin2 [.int (ns.length : Int), .int 20] = some (.int (N : Int), false) ∧ N ≤ 63 := by
      by_cases q : (20 : Int) < (ns.length : Int)
      · exact ⟨20, by simp [aMin2, q], by omega⟩
      · exact ⟨ns.length, by simp [aMin2, q], hn⟩
    obtain ⟨N, eN, hN⟩ := e1
    have e2 : ∃ N2 : Nat, aMax2 [.int 1, .int (N : Int)] = some (.int (N2 : Int), false) ∧ N2 ≤ 63 := by
      by_cases q : (1 : Int) < (N : Int)
      · exact ⟨N, by simp [aMax2, q], hN⟩
      · exact ⟨1, by simp [aMax2, q], by omega⟩
    obtain ⟨N2, eN2, hN2⟩ := e2
    have er : okRng 0 (N2 : Int) = true := by
      unfold okRng
      exact decide_eq_true (by omega)
    simp [ev, evs, evo, evp, evc, evi, evf, rdAll, Opd.rd, Opd.raw, Slots.val, Slots.loose, Slots.owns, P.app, tgt, tgts, setAll, wipeD, backD, selF, itemsOf, aLen, eN, eN2, er]
    refine WP_for (lawI ns) ⟨⟨_, _, _, _, _, _, _, _, rfl⟩, fun d hd => ?_⟩ ?_ ?_
    · unfold rngL at hd
      obtain ⟨k, _, rfl⟩ := List.mem_map.mp hd
      exact ⟨k, by simp⟩
    · rintro d left s ⟨⟨a1, a2, a3, a4, a5, a6, a7, h, rfl⟩, hd⟩
      obtain ⟨k, rfl⟩ := hd d List.mem_cons_self
      exact law_turn fun s hs => ⟨hs.1, fun e he => hd e (List.mem_cons_of_mem _ he)⟩
    · rintro s ⟨⟨a1, a2, a3, a4, a5, a6, a7, h, rfl⟩, _⟩
      rw [seqQ_next]
      refine WP_cons (WP_ret (fun _ z => nomatch z) ?_)
      simp [ev, evs, evo, evp, evc, evi, evf, rdAll, Opd.rd, Opd.raw, Slots.val, Slots.loose, Slots.owns, P.app, tgt, tgts, setAll, wipeD, backD, selF, itemsOf]
  obtain ⟨a, h', e, rfl⟩ := WP_ex w
  exact ⟨h', e⟩
end LW

theorem PySem.Challenge.cw_downrings_k02_open_minutes_holds : PySem.Challenge.rw_downrings_k02_open_minutes.Holds := by
  exact LW.holds_of LW.pure_law
